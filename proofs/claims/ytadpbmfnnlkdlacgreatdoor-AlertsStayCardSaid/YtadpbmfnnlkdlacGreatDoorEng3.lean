/-
  The engine: what the machine does to data, shown once for all programs (part 3).
-/
import Derived.Test.YtadpbmfnnlkdlacGreatDoorEng2
import Derived.Tactics
import Derived.KernelRfl
import Derived.IntWalk
import Derived.Lib.Bytealg
/-
  THE ENGINE: a function's body as a condition on data ('wpD'), and that the machine meets it.
-/
namespace Go.Eng
set_option linter.unusedSectionVars false
variable [DM]
def mF:List Oper->Bool
  | []=>true
  | o::r=>(match o.dst with
    | some d=>r.all λh=>match h.dst with
      | some A => !(Nat.beq d A)
      | none=>true
    | none=>true)&&mF r
def Br (C:Cfg) (ops:List Oper):Bool:=ops.all (Af C)&&mF ops
def envS:List (Nat×V)->Nat->V
  | [],_ => .any
  | (k,v)::l,j=>bif Nat.beq j k then v else envS l j
theorem MI (sl:Nat->V):∀(ks:List Nat) (j:Nat),envS (ks.map λk=>(k,sl k)) j=sl j\/envS (ks.map λk=>(k,sl k)) j = .any
  | [],_ => .inr rfl
  | k::ks,j=>by
    simp only [List.map_cons,envS]
    cases h:Nat.beq j k with
    | true=>rw [Nat.eq_of_beq_eq_true h];exact .inl rfl
    | false=>exact MI sl ks j
inductive Gst:St->St->Prop
  | refl (σ:St):Gst σ σ
  | forget (σ:St) (ks:List Nat):Gst σ ⟨envS (ks.map λk=>(k,σ.slots k)),σ.store,σ.tick⟩
  | froz (σ:St) (n:Nm):Gst σ ⟨σ.slots,freezeAll σ.store [n],σ.tick⟩
  | co (σ:St) (k:Nat):Gst σ ⟨upd σ.slots k (co σ.store (σ.slots k)),σ.store,σ.tick⟩
  | coB (σ:St) (n:Nm) (sz:Nat) (cs:List V) (h:σ.store n=some (.cells sz cs)):Gst σ ⟨σ.slots,supd σ.store n (some (.cells sz (cs.map (co1 σ.store)))),σ.tick⟩
  | coM (σ:St) (n:Nm) (sz:Nat) (cs cs':List V) (h:σ.store n=some (.cells sz cs)) (hl:cs'.length=cs.length) (hc:∀j (h1:j<cs'.length) (h2:j<cs.length),cs'[j]=cs[j]\/cs'[j]=co1 σ.store cs[j]):Gst σ ⟨σ.slots,supd σ.store n (some (.cells sz cs')),σ.tick⟩
  | shr (σ:St) (n:Nm) (sz m:Nat) (xs:List (List D)) (h:σ.store n=some (.vec sz xs)):Gst σ ⟨σ.slots,supd σ.store n (some (.vec sz (xs.take m))),σ.tick⟩
  | pm (σ:St) (n:Nm) (h:σ.store n=some (.map [])):Gst σ ⟨σ.slots,supd σ.store n (some (.pmap [])),σ.tick⟩
  | wild (σ:St) (i:Nat) (n:Nm) (sz k len:Nat) (xs:List (List D)) (h:σ.store n=some (.vec sz xs)) (hi:σ.slots i = .vs n sz k len):Gst σ ⟨upd σ.slots i (.d (.wild sz len)),supd σ.store n none,σ.tick⟩
  | wild0 (σ:St) (i sz:Nat) (hi:σ.slots i = .nil\/σ.slots i = .d (.sl [])):Gst σ ⟨upd σ.slots i (.d (.wild sz 0)),σ.store,σ.tick⟩
  | trans {a b c:St}:Gst a b->Gst b c->Gst a c
def Fh (C:Cfg) (all:List Oper) (tk:Nat) (K:(Nat->V)->Store->Prop):List Oper->(Nat->V)->Store->Prop
  | [],sl,S=>K sl S
  | o::rest,sl0,h=>∃sl S,Gst ⟨sl0,h,tk⟩ ⟨sl,S,tk⟩/\match aQ all sl o with
    | some true=>(opD C o sl S tk λA=>Fh C all tk K rest (eF sl o.dst A.val) (fP S A.upd))\/Ql C o sl S tk λA=>Fh C all tk K rest (eF sl o.dst A.val) (fP S A.upd)
    | some false=>Fh C all tk K rest (eF sl o.dst .none) S
    | none=>False
def F4 (all:List Oper) (k:Nat) (A:Eff):List (Nat×Eff)->Prop
  | []=>True
  | (j,B)::L=>(Dis A B\/Cw all 8 j k=true)/\F4 all k A L
def opsL (C:Cfg) (all:List Oper) (tk:Nat) (K:(Nat->V)->Store->Prop):List Oper->Nat->List (Nat×Eff)->(Nat->V)->Store->Prop
  | [],_,_,sl,S=>K sl S
  | o::rest,k,L,sl,S=>match aQ all sl o with
    | some true=>opD C o sl S tk λA=>F4 all k A L/\opsL C all tk K rest (k+1) ((k,A)::L) (eF sl o.dst A.val) (fP S A.upd)
    | some false=>opsL C all tk K rest (k+1) L (eF sl o.dst .none) S
    | none=>False
def Ow (C:Cfg) (ops:Array Oper) (h:Bool) (σ:St) (K:St->Prop):Prop :=
  Br C ops.toList=true /\
  bif h then (C.P.follows .mixedOrders=true/\Region.lexB .any ops=true/\opsL C ops.toList σ.tick (λsl S=>K ⟨sl,S,σ.tick+1⟩) ops.toList 0 [] σ.slots σ.store)
  else Fh C ops.toList σ.tick (λsl S=>K ⟨sl,S,σ.tick+1⟩) ops.toList σ.slots σ.store
def condD (v:V) (x y:Prop):Prop:=∃t,v = .d (.bool t)/\(t=true->x)/\(t=false->y)
def seqQ (K:St->Prop) (Q:Exit->St->Prop):Exit->St->Prop
  | .normal,σ=>K σ
  | e,σ=>Q e σ
def KM (id:Nat) (Q:Exit->St->Prop):Exit->St->Prop
  | .exit h,σ=>bif Nat.beq h id then Q .normal σ else Q (.exit h) σ
  | e,σ=>Q e σ
def wpD (C:Cfg):Code->(Exit->St->Prop)->St->Prop
  | .skip,Q,σ=>Q .normal σ
  | .seq a b,Q,σ=>wpD C a (seqQ (λσ=>∃h,Gst σ h/\wpD C b Q h) Q) σ
  | .cond c x y,Q,σ=>condD (ev σ.slots c) (∃h,Gst σ h/\wpD C x Q h) (∃h,Gst σ h/\wpD C y Q h)
  | .block id c,Q,σ=>wpD C c (KM id Q) σ
  | .exit id,Q,σ=>Q (.exit id) σ
  | .ret,Q,σ=>Q .ret σ
  | .loop c,Q,σ=>∃(I:St->Prop) (m:St->Nat),(∃F,Gst σ F/\I F)/\∀h,I h->wpD C c (seqQ (λA=>∃B,Gst A B/\I B/\m B<m h) Q) h
  | .region _ ops o,Q,σ=>Ow C ops o σ (Q .normal)
  | _,_,_=>False
def J3 (C:Cfg) (E:Env) (G:Gh) (w:World) (a:Act) (σ:St):Prop:=Reg C E G w a σ.slots σ.store σ.tick (λ_=>False)
section
variable {C:Cfg} {E:Env}
theorem vF:∀{l:List Oper} (_:mF l=true) (i j:Nat) (o A:Oper) (d:Nat),l[i]? = some o->l[j]? = some A->o.dst=some d->A.dst=some d->i=j
  | [],_,i,j,o,A,d,h1,_,_,_=>by simp at h1
  | x::l,h,0,0,o,A,d,_,_,_,_=>rfl
  | x::l,h,0,j+1,o,A,d,h1,h2,F,I=>by
    simp only [List.getElem?_cons_zero,so_]at h1
    subst h1
    simp only [mF,F,Bool.and_eq_true]at h
    have B:=List.all_eq_true.1 h.1 A (List.mem_of_getElem? (by simpa using h2))
    simp only [I]at B
    have:Nat.beq d d=true:=Nat.beq_refl d
    rw [this]at B;cases B
  | x::l,h,i+1,0,o,A,d,h1,h2,F,I=>by
    simp only [List.getElem?_cons_zero,so_]at h2
    subst h2
    simp only [mF,I,Bool.and_eq_true]at h
    have B:=List.all_eq_true.1 h.1 o (List.mem_of_getElem? (by simpa using h1))
    simp only [F]at B
    have:Nat.beq d d=true:=Nat.beq_refl d
    rw [this]at B;cases B
  | x::l,h,i+1,j+1,o,A,d,h1,h2,F,I=>by
    simp only [mF,Bool.and_eq_true]at h
    rw [vF h.2 i j o A d (by simpa using h1) (by simpa using h2) F I]
theorem Az {ops:Array Oper} (h:Br C ops.toList=true) {j:Nat} {o:Oper} (ho:ops[j]? = some o):Af C o=true:=by
  simp only [Br,Bool.and_eq_true]at h
  exact List.all_eq_true.1 h.1 o (List.mem_of_getElem? (by simpa using ho))
theorem qg {o:Oper} (h:Af C o=true) {d:Nat} (A:o.dst=some d):d<C.n/\d<100000:=by
  simp only [Af,A,Bool.and_eq_true]at h
  exact⟨by simpa [Nat.blt_eq]using h.1,by simpa [Nat.blt_eq]using h.2⟩
def OI (pre:List Oper) (n:Nat):Prop:=∃o∈pre,o.dst=some (n % 100000)
theorem Gst.okR {U:Nat->Prop} {σ σ':St} (h:Gst σ σ'):∀{G:Gh} {w:World} {a:Act},Reg C E G w a σ.slots σ.store σ.tick U->∃G',Reg C E G' w a σ'.slots σ'.store σ'.tick U:=by
  induction h with
  | refl σ=>exact λhc=>⟨_,hc⟩
  | forget σ ks =>
    intro G w a hc
    have ht:∀i,RepV G w (a.tmps.getD i undef) (envS (ks.map λk=>(k,σ.slots k)) i):=λi=>by
      rcases MI σ.slots ks i with e|e
      · rw [e];exact hc.tm i
      · rw [e];exact .any _
    exact⟨G,{ hc with tm:=ht }⟩
  | froz σ n =>
    intro G w a hc
    obtain ⟨G',i,e⟩:=rE [n] hc.inv
    exact⟨G',{ sz:=hc.sz,df:=hc.df,tm:=λj=>(hc.tm j).ext e,inv:=i }⟩
  | co σ k =>
    intro G w a hc
    have ht:∀i,RepV G w (a.tmps.getD i undef) (upd σ.slots k (Eng.co σ.store (σ.slots k)) i):=λi=>by
      simp only [upd]
      cases h:Nat.beq i k with
      | true=>rw [Nat.eq_of_beq_eq_true h];exact K4 hc.inv (hc.tm k)
      | false=>exact hc.tm i
    exact⟨G,{ hc with tm:=ht }⟩
  | coB σ n sz cs h =>
    intro G w a hc
    refine⟨G,{ sz:=hc.sz,df:=hc.df,tm:=hc.tm,inv := { hc.inv with box:=λm bx hm => ?_,one:=λn1 Z b1 b2 b o s1 o' Y h1 h2 F h4 h5 => ?_ } }⟩
    · by_cases e:m=n
      · subst e
        simp only [supd,if_true,so_]at hm
        subst hm
        obtain ⟨b,o,A,J,I,hm⟩:=hc.inv.box m _ h
        refine⟨b,o,A,J,?_,λ_=>hm rfl⟩
        have B:Stands G w (.cells sz cs) b o A:=I
        have:Stands G w (.cells sz (cs.map (co1 σ.store))) b o A :=
          { sz:=B.sz,even:=trivial,room:=by have:=B.room;simp only [Box.all,List.length_map]at this ⊢;exact this
            cell:=λj hj=>by
              have M:j<cs.length:=by simpa [Box.all]using hj
              obtain ⟨u,h1,h2,F⟩:=B.cell j M
              refine⟨u,h1,h2,?_⟩
              simp only [Box.all,List.getElem_map]
              exact FP hc.inv F
            free:=B.free,froz:=λhm=>by simp [Box.mut]at hm,cel:=B.cel }
        exact this
      · simp only [supd,if_neg e]at hm
        exact hc.inv.box m bx hm
    · have old:∀m bx,supd σ.store n (some (.cells sz (cs.map (co1 σ.store)))) m=some bx->∃bx',σ.store m=some bx'/\bx'.mut=bx.mut:=λm bx hm=>by
        by_cases e:m=n
        · subst e
          simp only [supd,if_true,so_]at hm
          subst hm
          exact⟨_,h,rfl⟩
        · simp only [supd,if_neg e]at hm
          exact⟨bx,hm,rfl⟩
      obtain ⟨c1,N,m1⟩:=old _ _ h1
      obtain ⟨c2,L,_⟩:=old _ _ h2
      exact hc.inv.one n1 Z c1 c2 b o s1 o' Y N L (m1.trans F) h4 h5
  | shr σ n sz m xs h =>
    intro G w a hc
    refine⟨G,{ sz:=hc.sz,df:=hc.df,tm:=hc.tm,inv := { hc.inv with box:=λX bx hm => ?_,one:=λn1 Z b1 b2 b o s1 o' Y h1 h2 F h4 h5 => ?_ } }⟩
    · by_cases e:X=n
      · subst e
        simp only [supd,if_true,so_]at hm
        subst hm
        obtain ⟨b,o,A,J,I,hm⟩:=hc.inv.box X _ h
        refine⟨b,o,A,J,?_,λ_=>hm rfl⟩
        have B:Stands G w (.vec sz xs) b o A:=I
        have hal:(Box.vec sz xs).all=(Box.vec sz (xs.take m)).all++(Box.vec sz (xs.drop m)).all:=by
          simp only [Box.all]
          rw [<- List.flatten_append,<- List.map_append,List.take_append_drop]
        have O:(Box.vec sz (xs.take m)).all.length<=(Box.vec sz xs).all.length:=by rw [hal,List.length_append];omega
        have:Stands G w (.vec sz (xs.take m)) b o A :=
          { sz:=B.sz,even:=λx hx=>B.even x (List.mem_of_mem_take hx),room:=Nat.le_trans (Nat.add_le_add_left O o) B.room
            cell:=λj hj=>by
              obtain ⟨u,h1,h2,F⟩:=B.cell j (Nat.lt_of_lt_of_le hj O)
              refine⟨u,h1,h2,?_⟩
              have e:(Box.vec sz xs).all[j]'(Nat.lt_of_lt_of_le hj O)=(Box.vec sz (xs.take m)).all[j]:=by
                have e2:(Box.vec sz xs).all[j]? = (Box.vec sz (xs.take m)).all[j]? := by rw [hal,List.getElem?_append_left hj]
                rw [List.getElem?_eq_getElem (Nat.lt_of_lt_of_le hj O),List.getElem?_eq_getElem hj,so_]at e2
                exact e2
              rw [<- e];exact F
            free:=B.free,froz:=λhm=>by simp [Box.mut]at hm }
        exact this
      · simp only [supd,if_neg e]at hm
        exact hc.inv.box X bx hm
    · have old:∀X bx,supd σ.store n (some (.vec sz (xs.take m))) X=some bx->∃bx',σ.store X=some bx'/\bx'.mut=bx.mut:=λX bx hm=>by
        by_cases e:X=n
        · subst e
          simp only [supd,if_true,so_]at hm
          subst hm
          exact⟨_,h,rfl⟩
        · simp only [supd,if_neg e]at hm
          exact⟨bx,hm,rfl⟩
      obtain ⟨c1,N,m1⟩:=old _ _ h1
      obtain ⟨c2,L,_⟩:=old _ _ h2
      exact hc.inv.one n1 Z c1 c2 b o s1 o' Y N L (m1.trans F) h4 h5
  | coM σ n sz cs R h hl hcs =>
    intro G w a hc
    refine⟨G,{ sz:=hc.sz,df:=hc.df,tm:=hc.tm,inv := { hc.inv with box:=λm bx hm => ?_,one:=λn1 Z b1 b2 b o s1 o' Y h1 h2 F h4 h5 => ?_ } }⟩
    · by_cases e:m=n
      · subst e
        simp only [supd,if_true,so_]at hm
        subst hm
        obtain ⟨b,o,A,J,I,hm⟩:=hc.inv.box m _ h
        refine⟨b,o,A,J,?_,λ_=>hm rfl⟩
        have B:Stands G w (.cells sz cs) b o A:=I
        have:Stands G w (.cells sz R) b o A :=
          { sz:=B.sz,even:=trivial,room:=by have:=B.room;simp only [Box.all]at this ⊢;omega
            cell:=λj hj=>by
              have hj1:j<R.length:=hj
              have M:j<cs.length:=by omega
              obtain ⟨u,h1,h2,F⟩:=B.cell j M
              refine⟨u,h1,h2,?_⟩
              show RepV G w u R[j]
              rcases hcs j hj1 M with e|e
              · rw [e];exact F
              · rw [e];exact FP hc.inv F
            free:=B.free,froz:=λhm=>by simp [Box.mut]at hm,cel:=B.cel }
        exact this
      · simp only [supd,if_neg e]at hm
        exact hc.inv.box m bx hm
    · have old:∀m bx,supd σ.store n (some (.cells sz R)) m=some bx->∃bx',σ.store m=some bx'/\bx'.mut=bx.mut:=λm bx hm=>by
        by_cases e:m=n
        · subst e
          simp only [supd,if_true,so_]at hm
          subst hm
          exact⟨_,h,rfl⟩
        · simp only [supd,if_neg e]at hm
          exact⟨bx,hm,rfl⟩
      obtain ⟨c1,N,m1⟩:=old _ _ h1
      obtain ⟨c2,L,_⟩:=old _ _ h2
      exact hc.inv.one n1 Z c1 c2 b o s1 o' Y N L (m1.trans F) h4 h5
  | pm σ n h =>
    intro G w a hc
    refine⟨G,{ sz:=hc.sz,df:=hc.df,tm:=hc.tm,inv := { hc.inv with box:=λm bx hm => ?_,one:=λn1 Z b1 b2 b o s1 o' Y h1 h2 F h4 h5 => ?_ } }⟩
    · by_cases e:m=n
      · subst e
        simp only [supd,if_true,so_]at hm
        subst hm
        obtain ⟨b,o,A,J,I,hm⟩:=hc.inv.box m _ h
        refine⟨b,o,A,J,?_,λ_=>hm rfl⟩
        obtain ⟨k0,arr,clock,N,L,k3⟩:=I
        exact⟨k0,arr,clock,N,L,λi h1 h2=>absurd h2 (Nat.not_lt_zero i)⟩
      · simp only [supd,if_neg e]at hm
        exact hc.inv.box m bx hm
    · have old:∀m bx,supd σ.store n (some (.pmap [])) m=some bx->∃bx',σ.store m=some bx'/\bx'.mut=bx.mut:=λm bx hm=>by
        by_cases e:m=n
        · subst e
          simp only [supd,if_true,so_]at hm
          subst hm
          exact⟨_,h,rfl⟩
        · simp only [supd,if_neg e]at hm
          exact⟨bx,hm,rfl⟩
      obtain ⟨c1,N,m1⟩:=old _ _ h1
      obtain ⟨c2,L,_⟩:=old _ _ h2
      exact hc.inv.one n1 Z c1 c2 b o s1 o' Y N L (m1.trans F) h4 h5
  | wild σ i n sz k len xs h hi =>
    intro G w a hc
    have W:=hc.tm i
    rw [hi]at W
    obtain ⟨G',i',e,r⟩:=Lr hc.inv h W
    have ht:∀j,RepV G' w (a.tmps.getD j undef) (upd σ.slots i (.d (.wild sz len)) j):=λj=>by
      simp only [upd]
      cases hj:Nat.beq j i with
      | true=>rw [Nat.eq_of_beq_eq_true hj];exact .d r
      | false=>exact (hc.tm j).ext e
    exact⟨G',{ sz:=hc.sz,df:=hc.df,tm:=ht,inv:=i' }⟩
  | wild0 σ i sz hi =>
    intro G w a hc
    have W:=hc.tm i
    have ht:∀j,RepV G w (a.tmps.getD j undef) (upd σ.slots i (.d (.wild sz 0)) j):=λj=>by
      simp only [upd]
      cases hj:Nat.beq j i with
      | true =>
        rw [Nat.eq_of_beq_eq_true hj]
        generalize a.tmps.getD i undef=v at W
        rcases hi with hi|hi
        · rw [hi]at W
          cases W with
          | nil a=>exact .d (.wild0 a 0 sz)
        · rw [hi]at W
          have hd:=W.d_inv
          rcases hd.sl_len with⟨a,cap,⟨rfl,_⟩|⟨a',cap',rfl,_⟩⟩
          · exact .d (.wild0 _ _ sz)
          · exact .d (.wild0 _ _ sz)
      | false=>exact hc.tm j
    exact⟨G,{ hc with tm:=ht }⟩
  | trans _ _ h1 h2 =>
    intro G w a hc
    obtain ⟨G1,F⟩:=h1 hc
    exact h2 F
theorem yV {ops:Array Oper} {tk:Nat} {K:(Nat->V)->Store->Prop} {Q':Exit->Act->World->Prop} (B:Br C ops.toList=true)
    (hQ:∀a w G sl S,K sl S->Reg C E G w a sl S tk (OI ops.toList)->Q' .normal a w) :
    ∀(rest pre:List Oper) (sl:Nat->V) (S:Store) (a:Act) (w:World) (G:Gh),ops.toList=pre++rest->Fh C ops.toList tk K rest sl S->Reg C E G w a sl S tk (OI pre) ->
      wpList C.P ops Q' rest a w
  | [],pre,sl,S,a,w,G,M,h,I=>by
    rw [List.append_nil]at M
    exact hQ a w G sl S h (M ▸ I)
  | o::rest,pre,sl0,S0,a,w,G0,M,h,I=>by
    simp only [Fh]at h
    obtain ⟨sl,S,hg,h⟩:=h
    obtain ⟨G,I⟩:=hg.okR I
    dsimp only at I
    have Y:ops[pre.length]? = some o:=by rw [<- Array.getElem?_toList,M];simp
    have J:=Az B Y
    have X:∀b,aQ ops.toList sl o=some b->Region.wanted o (yielded ops a.tmps)=b:=λb hb =>
      Jl I hb (λj W d L hd'=>(qg (Az B L) hd').1)
    have N:ops.toList=(pre++[o])++rest:=by rw [M];simp
    unfold wpList
    split at h
    · rename_i hw
      rw [if_pos (X true hw)]
      left
      have R:∀(A:Eff) (u:Value) (w':World) (G':Gh),Fh C ops.toList tk K rest (eF sl o.dst A.val) (fP S A.upd)->Reg C E G' w' (a.put o.dst u) (eF sl o.dst A.val) (fP S A.upd) tk (λn=>OI pre n\/o.dst=some (n % 100000))->wpList C.P ops Q' rest (a.put o.dst u) w' :=
        λA u w' G' hA F=>yV B hQ rest (pre++[o]) _ _ _ w' G' N hA { F with inv:=F.inv.mono (λn O=>by
          rcases O with⟨W,h1,h2⟩|O
          · exact⟨W,by simp [h1],h2⟩
          · exact⟨o,by simp,O⟩) }
      have Z:∀d,o.dst=some d->∀j,¬OI pre (d+100000*j):=λd hd j hu=>by
        obtain ⟨W,L,he⟩:=hu
        obtain ⟨i,hi,rfl⟩:=List.getElem_of_mem L
        have hlt:=(qg J hd).2
        have e:(d+100000*j) % 100000=d:=(Nat.add_mul_mod_self_left d 100000 j).trans (Nat.mod_eq_of_lt hlt)
        rw [e]at he
        simp only [Br,Bool.and_eq_true]at B
        have:=vF B.2 i pre.length pre[i] o d (by rw [M,List.getElem?_append_left hi];simp) (by rw [M];simp) he hd
        omega
      rcases h with h|h
      case inr=>exact nil_ok I J Z h R
      refine op_ok I J Z h (λA u w' G' hA F=>yV B hQ rest (pre++[o]) _ _ _ w' G' N hA ?_)
      exact { F with inv:=F.inv.mono (λn O=>by
          rcases O with⟨W,h1,h2⟩|O
          · exact⟨W,by simp [h1],h2⟩
          · exact⟨o,by simp,O⟩) }
    · rename_i hw
      rw [if_neg (by rw [X false hw];simp)]
      refine yV B hQ rest (pre++[o]) _ _ _ w G N h ?_
      have:=I.put (Ext.refl G w) I.inv J (RepV.none)
      exact { this with inv:=this.inv.mono (λn ⟨W,h1,h2⟩=>⟨W,by simp [h1],h2⟩) }
    · exact h.elim
def RZ (ops:Array Oper) (h:Array Bool) (n:Nat):Prop:=∃i o,ops[i]? = some o/\h.getD i false=true/\o.dst=some (n % 100000)
theorem Co {ops:Array Oper} {tk:Nat} {K:(Nat->V)->Store->Prop} {Q':Exit->Act->World->Prop} (F:Br C ops.toList=true)
    (Z:∀a w G sl S U,K sl S->Reg C E G w a sl S tk U->Q' .normal a w) :
    ∀(fuel:Nat) (B:Array Bool) (sl:Nat->V) (S:Store) (L:Log) (a:Act) (w:World) (G:Gh),Qa C ops tk K fuel B sl S L->B.size=ops.size ->
      Reg C E G w a sl S tk (RZ ops B)->wpAny C.P .any ops Q' fuel B a w
  | 0,B,sl,S,L,a,w,G,h,_,M=>⟨h.1,Z a w G sl S _ h.2 M⟩
  | fuel+1,B,sl,S,L,a,w,G,h,hsz,M=>by
    refine⟨λh0=>Z a w G sl S _ (h.1 h0) M,λi hi => ?_⟩
    have N:=h.2 i hi
    obtain ⟨hun,o,ho,_⟩:=mem_ready.1 hi
    have W:=Ie hun
    have J:=Az F ho
    have R:i<B.size:=by rw [hsz];exact (Array.getElem?_eq_some_iff.1 ho).1
    have O:∀b,aQ ops.toList sl o=some b->Region.wanted o (yielded ops a.tmps)=b:=λb hb =>
      Jl M hb (λj o' d ho' hd'=>(qg (Az F ho') hd').1)
    have I:∀n,RZ ops B n->RZ ops (B.setIfInBounds i true) n:=λn ⟨k,o',h1,h2,h3⟩=>⟨k,o',h1,getD_set_true h2,h3⟩
    unfold qD at N
    unfold wpOp
    simp only [ho]at N ⊢
    split at N
    · rename_i hw
      rw [if_pos (O true hw)]
      left
      refine op_ok M J (λd hd j hu => ?_) N (λA u w' G' hA Y=>Co F Z fuel _ _ _ _ _ w' G' hA.2 (by simp [hsz]) ?_)
      · obtain ⟨k,o',h1,h2,h3⟩:=hu
        have hlt:=(qg J hd).2
        have e:(d+100000*j) % 100000=d:=(Nat.add_mul_mod_self_left d 100000 j).trans (Nat.mod_eq_of_lt hlt)
        rw [e]at h3
        simp only [Br,Bool.and_eq_true]at F
        have:=vF F.2 k i o' o d (by simpa using h1) (by simpa using ho) h3 hd
        subst this
        rw [W]at h2;cases h2
      · exact { Y with inv:=Y.inv.mono (λn X=>by
          rcases X with X|X
          · exact I n X
          · exact⟨i,o,ho,by simp [Array.getD_eq_getD_getElem?,R],X⟩) }
    · rename_i hw
      rw [if_neg (by rw [O false hw];simp)]
      refine Co F Z fuel _ _ _ _ _ w G N (by simp [hsz]) ?_
      have:=M.put (Ext.refl G w) M.inv J (RepV.none)
      exact { this with inv:=this.inv.mono I }
    · exact N.elim
theorem yC {ops:Array Oper} {tk:Nat} {K:(Nat->V)->Store->Prop}:∀(rest:List Oper) (k:Nat) (L:List (Nat×Eff)) (F:Log) (sl:Nat->V) (S:Store),
    (∀i,rest[i]? = ops[k+i]?)->k+rest.length=ops.size->(∀j B,F j=some B->(j,B)∈L)->opsL C ops.toList tk K rest k L sl S->Q7 C ops tk K rest.length k sl S F
  | [],k,L,F,sl,S,_,_,_,h=>h
  | o::rest,k,L,F,sl,S,hi,W,J,h=>by
    have R:ops[k]? = some o:=by simpa using (hi 0).symm
    have I:∀i,rest[i]? = ops[k+1+i]? := λi=>by
      have:=hi (i+1)
      simpa [Nat.add_assoc,Nat.add_comm 1 i]using this
    simp only [List.length_cons]at W ⊢
    simp only [opsL]at h
    show qD C ops tk k (Q7 C ops tk K rest.length (k+1)) sl S F
    unfold qD
    simp only [R]
    split at h
    · rename_i N
      simp only [N]
      refine xK (λA ⟨hc,X⟩=>⟨λj B hj => ?_,yC rest (k+1) ((k,A)::L) _ _ _ I (by omega) (λj B hj => ?_) X⟩) h
      · have key:∀(L:List (Nat×Eff)),F4 ops.toList k A L->(j,B)∈L->Dis A B\/Cw ops.toList 8 j k=true:=by
          intro L
          induction L with
          | nil=>intro _ hm;cases hm
          | cons p L O =>
            intro hc hm
            obtain ⟨Z,Y⟩:=p
            rcases List.mem_cons.1 hm with hm|hm
            · simp only [Prod.mk.injEq]at hm
              obtain ⟨rfl,rfl⟩:=hm
              exact hc.1
            · exact O hc.2 hm
        exact key L hc (J j B hj)
      · unfold uo at hj
        split at hj
        · rename_i M
          simp only [so_]at hj
          subst hj M
          simp
        · exact List.mem_cons_of_mem _ (J j B hj)
    · rename_i N
      simp only [N]
      exact yC rest (k+1) L F _ _ I (by omega) J h
    · exact h.elim
theorem Reg.next {G:Gh} {w:World} {a:Act} {sl:Nat->V} {S:Store} {tk:Nat} {U:Nat->Prop} (h:Reg C E G w a sl S tk U):Reg C E G w a sl S (tk+1) (λ_=>False) :=
  { h with inv := { h.inv with tick:=λn x o => .inl (by rcases h.inv.tick n x o with h1 | ⟨h1,_⟩ <;> omega) } }
theorem Reg.drew {G:Gh} {w:World} {a:Act} {sl:Nat->V} {S:Store} {tk:Nat} {U:Nat->Prop} (h:Reg C E G w a sl S tk U):Reg C E G w.drew a sl S tk U :=
  { h with tm:=λi=>(h.tm i).ext h.inv.drew.2,inv:=h.inv.drew.1 }
theorem I4 {id:Nat} {ops:Array Oper} {o:Bool} {σ:St} {K:St->Prop} {Q':Exit->Act->World->Prop} {G:Gh} {w:World} {a:Act} (hc:J3 C E G w a σ)
    (O:∀a w G R,K R->J3 C E G w a R->Q' .normal a w) (h:Ow C ops o σ K):(Code.region id ops o).wp C.P Q' a w:=by
  obtain ⟨A,h⟩:=h
  cases o with
  | false =>
    simp only [cond_false]at h
    refine wp_region_list (yV (E:=E) A (λa w G sl S I M=>O a w G ⟨sl,S,σ.tick+1⟩ I M.next) ops.toList [] σ.slots σ.store a w G rfl h ?_)
    exact { hc with inv:=hc.inv.mono (λ_ L=>L.elim) }
  | true =>
    simp only [cond_true]at h
    obtain ⟨hm,N,hl⟩:=h
    simp only [Region.lexB,Bool.and_eq_true]at N
    refine wp_region_any hm ?_
    have h1:=yC (ops:=ops) ops.toList 0 [] (λ_=>none) σ.slots σ.store (λi=>by simp) (by simp) (λj B hj=>by cases hj) hl
    have h2:=Hf (C:=C) (tk:=σ.tick) ops.toList.length 0 (Array.replicate ops.size false) σ.slots σ.store (λ_=>none) (by simp) (by simpa using N.2)
      (λk ok _ F=>by
        exfalso
        rcases Nat.lt_or_ge k ops.size with J|J
        · simp [Array.getD_eq_getD_getElem?,J]at F
        · simp [Array.getD_eq_getD_getElem?,J]at F) (λ_ _=>rfl) h1
    have W:=Co (E:=E) (Q':=Q') A (λa w G sl S U I M=>O a w G ⟨sl,S,σ.tick+1⟩ I M.next) _ _ _ _ _ a w.drew G h2 (by simp)
      (Reg.drew { hc with inv:=hc.inv.mono (λ_ L=>L.elim) })
    simpa using W
theorem exists_least {p:Nat->Prop} (h:∃n,p n):∃n,p n/\∀m,p m->n<=m:=by
  obtain ⟨n,o⟩:=h
  induction n using Nat.strongRecOn with
  | _ n A =>
    by_cases hx:∃m,m<n/\p m
    · obtain ⟨m,h1,h2⟩:=hx
      exact A m h1 h2
    · exact⟨n,o,λm hm=>Nat.le_of_not_lt (λh1=>hx ⟨m,h1,hm⟩)⟩
open Classical in
noncomputable def leastOf (p:Nat->Prop):Nat:=if h:∃n,p n then (exists_least h).choose else 0
theorem leastOf_spec {p:Nat->Prop} (h:∃n,p n):p (leastOf p)/\∀m,p m->leastOf p<=m:=by
  unfold leastOf
  rw [dif_pos h]
  exact (exists_least h).choose_spec
def Fits (C:Cfg) (E:Env) (I:St->Prop) (m:St->Nat) (a:Act) (w:World) (n:Nat):Prop:=∃G σ,J3 C E G w a σ/\I σ/\m σ=n
theorem Gst.ok {σ o:St} (h:Gst σ o):∀{G:Gh} {w:World} {a:Act},J3 C E G w a σ->∃G',J3 C E G' w a o:=λhc=>Gst.okR h hc
theorem sG:∀(c:Code) (Q:Exit->St->Prop) (σ:St) (Q':Exit->Act->World->Prop) (a:Act) (w:World) (G:Gh),J3 C E G w a σ ->
    (∀e a w G F,Q e F->J3 C E G w a F->Q' e a w)->wpD C c Q σ->c.wp C.P Q' a w
  | .skip,Q,σ,Q',a,w,G,hc,A,h=>wp_skip (A _ a w G σ h hc)
  | .ret,Q,σ,Q',a,w,G,hc,A,h=>wp_ret (A _ a w G σ h hc)
  | .exit id,Q,σ,Q',a,w,G,hc,A,h=>wp_exit (A _ a w G σ h hc)
  | .seq x y,Q,σ,Q',a,w,G,hc,A,h=>by
    refine wp_seq (sG x _ σ _ a w G hc (λe a w G F B o => ?_) h)
    cases e with
    | normal =>
      obtain ⟨W,R,B⟩:=B
      obtain ⟨O,J⟩:=R.ok o
      exact sG y Q W Q' a w O J A B
    | exit id=>exact A _ a w G F B o
    | goto l=>exact A _ a w G F B o
    | ret=>exact A _ a w G F B o
    | panic ch=>exact A _ a w G F B o
    | outgrown=>exact A _ a w G F B o
  | .cond c x y,Q,σ,Q',a,w,G,hc,A,h=>by
    obtain ⟨t,ht,h1,h2⟩:=h
    have hv:=Reg.ev hc c
    rw [ht]at hv
    have N:=hv.d_inv.bool_inv
    cases t with
    | true =>
      obtain ⟨W,R,B⟩:=h1 rfl
      obtain ⟨O,J⟩:=R.ok hc
      exact wp_cond_true N (sG x Q W Q' a w O J A B)
    | false =>
      obtain ⟨W,R,B⟩:=h2 rfl
      obtain ⟨O,J⟩:=R.ok hc
      exact wp_cond_false N (sG y Q W Q' a w O J A B)
  | .block id x,Q,σ,Q',a,w,G,hc,A,h=>by
    refine wp_block (sG x _ σ _ a w G hc (λe a w G F B o => ?_) h)
    cases e with
    | exit Z =>
      simp only [KM]at B
      simp only [Exit.inBlock]
      cases hb:Nat.beq Z id with
      | true =>
        rw [hb]at B
        rw [if_pos (Nat.eq_of_beq_eq_true hb)]
        exact A _ a w G F B o
      | false =>
        rw [hb]at B
        rw [if_neg (λe=>by rw [e,Nat.beq_refl]at hb;cases hb)]
        exact A _ a w G F B o
    | normal=>exact A _ a w G F B o
    | goto l=>exact A _ a w G F B o
    | ret=>exact A _ a w G F B o
    | panic ch=>exact A _ a w G F B o
    | outgrown=>exact A _ a w G F B o
  | .loop x,Q,σ,Q',a,w,G,hc,A,h=>by
    obtain ⟨I,m,⟨σ0,hg0,h0⟩,L⟩:=h
    obtain ⟨G0,hc0⟩:=hg0.ok hc
    refine wp_loop (λa w=>∃n,Fits C E I m a w n) (λa w=>leastOf (Fits C E I m a w)) ⟨m σ0,G0,σ0,hc0,h0,rfl⟩ (λa w hI => ?_)
    obtain ⟨⟨G,σ,hc,hIσ,hm⟩,_⟩:=leastOf_spec hI
    refine sG x _ σ _ a w G hc (λe M w' G' F B o => ?_) (L σ hIσ)
    cases e with
    | normal =>
      obtain ⟨Y,hg3,h1,h2⟩:=B
      obtain ⟨G3,hc3⟩:=hg3.ok o
      have X:∃n,Fits C E I m M w' n:=⟨m Y,G3,Y,hc3,h1,rfl⟩
      refine⟨X,?_⟩
      have:=(leastOf_spec X).2 (m Y) ⟨G3,Y,hc3,h1,rfl⟩
      omega
    | exit id=>exact A _ M w' G' F B o
    | goto l=>exact A _ M w' G' F B o
    | ret=>exact A _ M w' G' F B o
    | panic ch=>exact A _ M w' G' F B o
    | outgrown=>exact A _ M w' G' F B o
  | .region id ops draw,Q,σ,Q',a,w,G,hc,A,h=>I4 hc (λa w G F hk o=>A _ a w G F hk o) h
  | .rangeFunc ..,_,_,_,_,_,_,_,_,h=>h.elim
  | .scope _,_,_,_,_,_,_,_,_,h=>h.elim
  | .label _,_,_,_,_,_,_,_,_,h=>h.elim
  | .goto _,_,_,_,_,_,_,_,_,h=>h.elim
  | .refuse _,_,_,_,_,_,_,_,_,h=>h.elim
end
end Go.Eng

/-
  THE ENGINE: a function's contract out of its body.
-/
namespace Go.Eng
set_option linter.unusedSectionVars false
variable [DM]
def Gr (C:Cfg) (σ:St):List ResultVar->Option (List V)
 | []=>some []
 | .tmp t::h=>(Gr C σ h).map (σ.slots t :: ·)
 | .cell a t::h=>match vX C.P t σ.store (σ.slots a),Gr C σ h with
  | some A,some vs=>some (A.val::vs)
  | _,_=>none
def GI (vs:List V):V:=match vs with
 | [v]=>v
 | vs => .tup vs
def Pt (k:Nat) (r:V) (Sout:List (Option Box)) (vs:List V) (S:Store):Prop :=
 ∃(h:List V) (ν:List Nm),vs.length=h.length/\(∀(i:Nat) (h1:i<vs.length) (h2:i<h.length),h[i]=vs[i]\/h[i]=co S vs[i])/\GI h=ren ν r/\ν.length=Sout.length/\ν.Nodup/\(∀i,i<k->ν[i]? = some (ax i)) /\
  ∀(i:Nat) (bx:Box),Sout[i]? = some (some bx)->∃n,ν[i]? = some n/\S n=some (bx.ren ν)
def retQ (C:Cfg) (h:List ResultVar) (fin:List V->Store->Prop):Exit->St->Prop
 | .normal,σ | .ret,σ=>∃vs,Gr C σ h=some vs/\fin vs σ.store
 | _,_=>False
def PK (args:List V):Nat->V:=λi=>args.getD i .none
theorem KV {C:Cfg} {E:Env} {G:Gh} {w:World} {a:Act} {σ:St} (hc:J3 C E G w a σ):∀(B:List ResultVar) (vs:List V),Gr C σ B=some vs ->
  ∃us:List Value,wh G w us vs/\(B.mapM (fun | .tmp t=>pure (a.tmps.getD t undef) | .cell b t=>do loadVar t (<- asAddr (a.tmps.getD b undef)):ResultVar->Sem Value)).run C.P w = .ok us w
 | [],vs,h=>by
  simp only [Gr,so_]at h
  subst h
  exact⟨[],⟨rfl,λi h1=>absurd h1 (Nat.not_lt_zero i)⟩,rfl⟩
 | .tmp t::B,vs,h=>by
  simp only [Gr,Option.map_eq_some_iff]at h
  obtain ⟨o,h1,rfl⟩:=h
  obtain ⟨us,h2,I⟩:=KV hc B o h1
  refine⟨a.tmps.getD t undef::us,⟨by simp [h2.1],λi J R => ?_⟩,by simp only [List.mapM_cons,Sem.run_bind,Sem.run_pure,Result.andThen_ok,I]⟩
  cases i with
  | zero=>exact hc.tm t
  | succ i=>exact h2.2 i _ _
 | .cell b t::B,vs,h=>by
  simp only [Gr]at h
  split at h
  ·rename_i A o N h1
   simp only [so_]at h
   subst h
   obtain ⟨us,h2,I⟩:=KV hc B o h1
   obtain ⟨L,M,O,J,W,_⟩:=JP hc.inv (hc.tm b) N
   refine⟨M::us,⟨by simp [h2.1],λi J R => ?_⟩,?_⟩
   ·cases i with
    | zero=>exact W
    | succ i=>exact h2.2 i _ _
   ·have F:(asAddr (a.tmps.getD b undef)).run C.P w = .ok L w:=by rw [O];rfl
    simp only [List.mapM_cons,Sem.run_bind,F,Sem.run_pure,Result.andThen_ok,J,I]
  ·cases h
theorem FnM.of_wpD' {P:Program} {f:FuncId} {fn:Func} {body:Code} {C:Cfg} (hf:P.funcs[f]? = some fn) (hb:fn.body=some body) (hP:C.P=P) (hn:C.n=fn.ntmps)
  {args:List V} {Sin:List Box} {r:V} {Sout:List (Option Box)} (hl:args.length<=fn.ntmps)
  (h:∃R,Gst ⟨PK args,iY Sin,1⟩ R/\wpD C body (retQ C fn.results.toList (Pt Sin.length r Sout)) R):FnM P f args Sin r Sout:=by
 subst hP
 intro G w o O A
 refine calls_of_wp hf hb ?_
 have hc:J3 C ⟨G,w,Ew G Sin⟩ G w { tmps:=o.toArray++Array.replicate (fn.ntmps-o.toArray.size) undef,defers:=[] } ⟨PK args,iY Sin,1⟩:=by
  refine⟨?_,rfl,λi => ?_,O⟩
  ·have:=A.1
   simp;omega
  ·have hl:=A.1
   show RepV G w _ (args.getD i .none)
   by_cases hi:i<args.length
   ·have h1:=A.2 i (by omega) hi
    simp only [Array.getD_eq_getD_getElem?,List.getD_eq_getElem?_getD]
    rw [List.getElem?_eq_getElem hi,Array.getElem?_append_left (by simp;omega)]
    simp [show i<o.length by omega]
    exact h1
   ·have e2:args.getD i .none = .none:=by simp [List.getD_eq_getElem?_getD,List.getElem?_eq_none (Nat.le_of_not_lt hi)]
    have e1:(o.toArray++Array.replicate (fn.ntmps-o.toArray.size) undef).getD i undef=undef:=by
     simp only [Array.getD_eq_getD_getElem?]
     rw [Array.getElem?_append_right (by simp;omega)]
     simp only [Array.getElem?_replicate]
     split <;> rfl
    rw [e1,e2]
    exact .none
 obtain ⟨σ0,X,h⟩:=h
 obtain ⟨G0,Y⟩:=X.ok hc
 refine sG body _ _ _ _ _ _ Y (λe a w' G' R L F => ?_) h
 have fin:retQ C fn.results.toList (Pt Sin.length r Sout) .ret R->a.defers=[]/\∃v,(results fn a.tmps).run C.P w' = .ok v w'/\∃v' G' S' Z U' ν,Ending.returned v = .returned v'/\Inv ⟨G,w,Ew G Sin⟩ G' w' S' Z U'/\RepV G' w' v' (ren ν r) /\
   ν.length=Sout.length/\ν.Nodup/\(∀i,i<Sin.length->ν[i]? = some (ax i))/\∀(i:Nat) (bx:Box),Sout[i]? = some (some bx)->∃n,ν[i]? = some n/\S' n=some (bx.ren ν):=by
  rintro ⟨vs0,h1,vs,ν,f0,N,f1,f2,f3,f4,f5⟩
  obtain ⟨us,J,u2⟩:=KV F _ vs0 h1
  have B:wh G' w' us vs:=⟨J.1.trans f0,λi q1 q2=>by
   rcases N i (by omega) q2 with e|e
   ·rw [e];exact J.2 i q1 _
   ·rw [e];exact K4 F.inv (J.2 i q1 _)⟩
  have M:∃v,(results fn a.tmps).run C.P w' = .ok v w'/\RepV G' w' v (GI vs):=by
   have hm:(fn.results.mapM (fun | .tmp t=>pure (a.tmps.getD t undef) | .cell b t=>do loadVar t (<- asAddr (a.tmps.getD b undef)):ResultVar->Sem Value)).run C.P w' = .ok us.toArray w':=by
    rw [Array.mapM_eq_mapM_toList]
    simp only [Sem.run_map,u2,Result.andThen_ok]
   have I:(results fn a.tmps).run C.P w' = .ok (if h:us.toArray.size=1 then us.toArray[0]else .tuple us.toArray) w':=by
    unfold results
    simp only [Sem.run_bind,Sem.run_pure]
    exact (congrArg (λx=>Result.andThen x (λ(a:Array Value) w'=>Result.ok (if h:a.size=1 then a[0]else Value.tuple a) w')) hm).trans rfl
   refine⟨_,I,?_⟩
   have W:=B.1
   clear f1 N f0 u2 hm I
   match vs,us,B,W with
   | [v],[u],B,_=>exact B.2 0 (by simp) (by simp)
   | [],[],B,_=>exact .tup [] [] B.1 B.2
   | v1::v2::vs,x1::x2::us,B,_ =>
    rw [dif_neg (by simp)]
    exact .tup _ _ B.1 B.2
  obtain ⟨v,hv,rv⟩:=M
  refine⟨F.df,v,hv,v,G',_,_,_,ν,rfl,F.inv,?_,f2,f3,f4,f5⟩
  rw [<- f1]
  exact rv
 cases e with
 | normal=>exact fin L
 | ret=>exact fin L
 | exit id=>exact L.elim
 | goto l=>exact L.elim
 | panic ch=>exact L.elim
 | outgrown=>exact L.elim
end Go.Eng

/-
  THE ENGINE: a body over a list of the boxes that are known ('wH'), ticks hidden; the rules for control, regions and loops.
-/
namespace Go.Eng
set_option linter.unusedSectionVars false
variable [DM]
set_option linter.unusedVariables false
abbrev Hp:=List (Nm×Option Box)
structure Ag (H:Hp) (S:Store) (t:Nat):Prop where
 pos:0<t
 nd:(H.map (·.1)).Nodup
 at_:∀p∈H,p.1.2<t/\∀b,p.2=some b->S p.1=some b
structure AgR (H:Hp) (S:Store) (t:Nat) (rest:List Oper):Prop where
 pos:0<t
 nd:(H.map (·.1)).Nodup
 at_:∀p∈H,(p.1.2<t\/p.1.2=t/\∀o∈rest,o.dst≠some (p.1.1 % 100000))/\∀b,p.2=some b->S p.1=some b
def uC (C:Cfg) (rest:List Oper):Prop:=mF rest=true/\∀o∈rest,Af C o=true
abbrev QH:=Exit->(Nat->V)->Hp->Prop
def endR (tk:Nat) (K:(Nat->V)->Hp->Prop) (sl:Nat->V) (S:Store):Prop:=∃h,AgR h S tk []/\K sl h
abbrev Fp:=Nat×List Nm×Bool
def LogOK (Γ:List Fp) (L:List (Nat×Eff)):Prop:=∀p∈L,(p.2.upd=[]/\p.2.req=[])\/∃e∈Γ,e.1=p.1/\(∀x∈p.2.req,x.1∈e.2.1)/\(∀x∈p.2.upd,x.1∈e.2.1)/\(e.2.2=false->p.2.upd=[])
def QT (all:List Oper) (k:Nat) (T:List Nm) (w:Bool):List Fp->Prop
 | []=>True
 | e::Γ=>((w=false/\e.2.2=false)\/(∀n∈T,n∉e.2.1)\/Cw all 8 e.1 k=true)/\QT all k T w Γ
abbrev Qm:=Option (List Fp)
def okQ (q:Qm) (all:List Oper) (k:Nat) (T:List Nm) (w:Bool):Prop:=match q with
 | none=>True
 | some Γ=>QT all k T w Γ
theorem il {b:Prop}:(none:Qm)=none\/b := .inl rfl
theorem ft {R:Store->Nat->Prop} {all:List Oper} {k:Nat} {T:List Nm} {w:Bool}:∀S tk,R S tk->okQ none all k T w:=λ_ _ _=>trivial
def uT (q:Qm) (k:Nat) (T:List Nm) (w:Bool):Qm:=q.map (λΓ=>Γ++[(k,T,w)])
def K7 (tk:Nat) (rest:List Oper) (m:Nm):Prop:=m.2<tk\/m.2=tk/\∀o∈rest,o.dst≠some (m.1 % 100000)
theorem K7.tail {tk:Nat} {o:Oper} {rest:List Oper} {m:Nm} (h:K7 tk (o::rest) m):K7 tk rest m:=h.imp id (λh=>⟨h.1,λA ho=>h.2 A (List.mem_cons_of_mem _ ho)⟩)
def R7 (tk:Nat) (rest:List Oper) (Γ:List Fp):Prop:=∀e∈Γ,∀m∈e.2.1,K7 tk rest m
theorem R7.tail {tk:Nat} {o:Oper} {rest:List Oper} {Γ:List Fp} (h:R7 tk (o::rest) Γ):R7 tk rest Γ:=λe A m hm=>(h e A m hm).tail
def oldQ (q:Qm) (tk:Nat) (rest:List Oper):Prop:=match q with
 | none=>True
 | some Γ=>R7 tk rest Γ
def bu (q:Qm) (C:Cfg) (all:List Oper) (K:(Nat->V)->Hp->Prop) (rest:List Oper) (sl:Nat->V) (H:Hp):Prop :=
 ∀S tk,uC C rest->AgR H S tk rest ->
  match q with
  | none=>Fh C all tk (endR tk K) rest sl S
  | some Γ=>∀k L,all.length=k+rest.length->LogOK Γ L->R7 tk rest Γ->opsL C all tk (endR tk K) rest k L sl S
def M7 (Q:QH):Exit->St->Prop:=λe σ=>∃h,Ag h σ.store σ.tick/\Q e σ.slots h
def sF (C:Cfg):Code->Bool
 | .seq a b=>sF C a&&sF C b
 | .cond _ x y=>sF C x&&sF C y
 | .block _ c=>sF C c
 | .loop c=>sF C c
 | .region _ ops h=>Br C ops.toList&&(!h||(C.P.follows .mixedOrders&&Region.lexB .any ops))
 | _=>true
def wH (C:Cfg) (c:Code) (Q:QH) (sl:Nat->V) (H:Hp):Prop :=
 sF C c=true->∀S t,Ag H S t->∃h,Gst ⟨sl,S,t⟩ h/\wpD C c (M7 Q) h
theorem Qu {C:Cfg} {o:Oper} {sl:Nat->V} {S:Store} {tk:Nat} {K J:Eff->Prop} (h:∀A,K A->J A) (F:Ql C o sl S tk K):Ql C o sl S tk J:=by
 unfold Ql at *
 split at F
 ·obtain ⟨xs,e,h1,h2,B⟩:=F
  exact⟨xs,e,h1,h2,λb hb=>h _ (B b hb)⟩
 ·obtain ⟨d,n,bx,es,h1,h2,B,I,N,L⟩:=F
  exact⟨d,n,bx,es,h1,h2,B,I,N,h _ L⟩
 ·obtain ⟨n,cur,left,h1,h2,B,I⟩:=F
  exact⟨n,cur,left,h1,h2,λe=>h _ (B e),λi e M=>h _ (I i e M)⟩
 ·obtain ⟨n,e,left,h1,h2,B⟩:=F
  exact⟨n,e,left,h1,h2,h _ B⟩
 ·exact F
theorem yc {C:Cfg} {all:List Oper} {tk:Nat} {K J:(Nat->V)->Store->Prop} (F:∀sl S,K sl S->J sl S):∀(l:List Oper) (sl:Nat->V) (S:Store),Fh C all tk K l sl S->Fh C all tk J l sl S
 | [],_,_,h=>F _ _ h
 | o::rest,sl,S,h=>by
  simp only [Fh]at h ⊢
  obtain ⟨sl',S',L,h⟩:=h
  refine⟨sl',S',L,?_⟩
  split
  ·rename_i B;simp only [B]at h;exact h.imp (xK (λA I=>yc F rest _ _ I)) (Qu (λA I=>yc F rest _ _ I))
  ·rename_i B;simp only [B]at h;exact yc F rest _ _ h
  ·rename_i B;simp only [B]at h
theorem AR {C:Cfg} {all:List Oper} {tk:Nat} {K J:(Nat->V)->Store->Prop} (F:∀sl S,K sl S->J sl S):∀(l:List Oper) (k:Nat) (L:List (Nat×Eff)) (sl:Nat->V) (S:Store),opsL C all tk K l k L sl S->opsL C all tk J l k L sl S
 | [],_,_,_,_,h=>F _ _ h
 | o::rest,k,L,sl,S,h=>by
  simp only [opsL]at h ⊢
  split
  ·rename_i B;simp only [B]at h;exact xK (λA I=>⟨I.1,AR F rest _ _ _ _ I.2⟩) h
  ·rename_i B;simp only [B]at h;exact AR F rest _ _ _ _ h
  ·rename_i B;simp only [B]at h
theorem l6 {C:Cfg}:∀(c:Code) {Q Q':Exit->St->Prop} {σ:St},(∀e σ,Q e σ->Q' e σ)->wpD C c Q σ->wpD C c Q' σ
 | .skip,_,_,_,o,h=>o _ _ h
 | .ret,_,_,_,o,h=>o _ _ h
 | .exit _,_,_,_,o,h=>o _ _ h
 | .seq x y,Q,Q',σ,o,h=>l6 x (λe σ h=>by
   cases e with
   | normal=>obtain ⟨F,L,h⟩:=h;exact⟨F,L,l6 y o h⟩
   | _=>exact o _ _ h) h
 | .cond c x y,Q,Q',σ,o,h=>by
  obtain ⟨t,ht,h1,h2⟩:=h
  exact⟨t,ht,λe=>(h1 e).imp λ_ h=>⟨h.1,l6 x o h.2⟩,λe=>(h2 e).imp λ_ h=>⟨h.1,l6 y o h.2⟩⟩
 | .block id x,Q,Q',σ,o,h=>l6 x (λe σ h=>by
   cases e with
   | exit B =>
    simp only [KM]at h ⊢
    cases hb:Nat.beq B id with
    | true=>rw [hb]at h;exact o _ _ h
    | false=>rw [hb]at h;exact o _ _ h
   | _=>exact o _ _ h) h
 | .loop x,Q,Q',σ,o,h=>by
  obtain ⟨I,m,J,M⟩:=h
  exact⟨I,m,J,λF hI=>l6 x (λe σ h=>by
   cases e with
   | normal=>exact h
   | _=>exact o _ _ h) (M F hI)⟩
 | .region id ops A,Q,Q',σ,o,h=>by
  obtain ⟨h1,h2⟩:=h
  refine⟨h1,?_⟩
  cases A with
  | true=>exact⟨h2.1,h2.2.1,AR (λ_ _=>o _ _) _ _ _ _ _ h2.2.2⟩
  | false=>exact yc (λ_ _=>o _ _) _ _ _ h2
 | .rangeFunc ..,_,_,_,_,h=>h.elim
 | .scope _,_,_,_,_,h=>h.elim
 | .label _,_,_,_,_,h=>h.elim
 | .goto _,_,_,_,_,h=>h.elim
 | .refuse _,_,_,_,_,h=>h.elim
section
variable {C:Cfg} {Q:QH} {sl:Nat->V} {H:Hp}
def I5 (K:(Nat->V)->Hp->Prop) (Q:QH):QH
 | .normal,sl,H=>K sl H
 | e,sl,H=>Q e sl H
def PY (id:Nat) (Q:QH):QH
 | .exit h,sl,H=>bif Nat.beq h id then Q .normal sl H else Q (.exit h) sl H
 | e,sl,H=>Q e sl H
theorem OV {c:Code} {Q Q':QH} (h:∀e sl H,Q e sl H->Q' e sl H) (o:wH C c Q sl H):wH C c Q' sl H:=λok S t B=>by
 obtain ⟨σ,A,o⟩:=o ok S t B
 exact⟨σ,A,l6 c (λe σ ⟨F,h1,h2⟩=>⟨F,h1,h _ _ _ h2⟩) o⟩
theorem av (h:Q .normal sl H):wH C .skip Q sl H:=λ_ S t o=>⟨_,.refl _,H,o,h⟩
theorem aB (h:Q .ret sl H):wH C .ret Q sl H:=λ_ S t o=>⟨_,.refl _,H,o,h⟩
theorem aX {id:Nat} (h:Q (.exit id) sl H):wH C (.exit id) Q sl H:=λ_ S t o=>⟨_,.refl _,H,o,h⟩
theorem ak {a b:Code} (h:wH C a (I5 (wH C b Q) Q) sl H):wH C (.seq a b) Q sl H:=λok S t B=>by
 simp only [sF,Bool.and_eq_true]at ok
 obtain ⟨σ,I,h⟩:=h ok.1 S t B
 refine⟨σ,I,l6 a (λe σ h => ?_) h⟩
 obtain ⟨J,h1,h2⟩:=h
 cases e with
 | normal =>
  obtain ⟨A,o,F⟩:=h2 ok.2 σ.store σ.tick h1
  exact⟨A,o,F⟩
 | _=>exact⟨J,h1,h2⟩
theorem aK {id:Nat} {c:Code} (h:wH C c (PY id Q) sl H):wH C (.block id c) Q sl H:=λok S t B=>by
 obtain ⟨σ,F,h⟩:=h ok S t B
 refine⟨σ,F,l6 c (λe σ h => ?_) h⟩
 obtain ⟨A,h1,h2⟩:=h
 cases e with
 | exit o =>
  simp only [KM,PY]at *
  cases hb:Nat.beq o id with
  | true=>rw [hb]at h2;exact⟨A,h1,h2⟩
  | false=>rw [hb]at h2;exact⟨A,h1,h2⟩
 | _=>exact⟨A,h1,h2⟩
theorem wH_if {c:Operand} {x y:Code} {b:Bool} (o:ev sl c = .d (.bool b)) (h1:b=true->wH C x Q sl H) (h2:b=false->wH C y Q sl H):wH C (.cond c x y) Q sl H:=λok S t h=>by
 simp only [sF,Bool.and_eq_true]at ok
 exact⟨_,.refl _,b,o,λe=>h1 e ok.1 S t h,λe=>h2 e ok.2 S t h⟩
theorem aA {c:Operand} {x y:Code} {b:Bool} (o:ev sl c = .d (.bool b)) (hb:b=true) (h:wH C x Q sl H):wH C (.cond c x y) Q sl H :=
 wH_if o (λ_=>h) (λe=>by rw [hb]at e;cases e)
theorem ay {c:Operand} {x y:Code} {b:Bool} (o:ev sl c = .d (.bool b)) (hb:b=false) (h:wH C y Q sl H):wH C (.cond c x y) Q sl H :=
 wH_if o (λe=>by rw [hb]at e;cases e) (λ_=>h)
theorem nP {c:Code} {sl':Nat->V} {o:Hp} (h:wH C c Q sl' o) (I:∀S t,Ag H S t->∃S',Gst ⟨sl,S,t⟩ ⟨sl',S',t⟩/\Ag o S' t):wH C c Q sl H:=λok S t B=>by
 obtain ⟨S',h1,h2⟩:=I S t B
 obtain ⟨σ,A,F⟩:=h ok S' t h2
 exact⟨σ,h1.trans A,F⟩
def pick (h:List (Nat×V)) (sl:Nat->V):List (Nat×V):=h.map λp=>(p.1,sl p.1)
theorem Qk {c:Code} (o:List (Nat×V)) (A:pick o sl=o) (h:wH C c Q (envS o) H):wH C c Q sl H :=
 nP h λS t B=>⟨S,by
  have:=Gst.forget ⟨sl,S,t⟩ (o.map (·.1))
  have e:((o.map (·.1)).map λk=>(k,sl k))=o:=by rw [List.map_map];exact A
  simp only [e]at this
  exact this,B⟩
def pre (H0 H:Hp):Prop:=∃is:List Nat,is.Nodup/\is.map (λi=>H[i]?)=H0.map some
theorem aG {H0 H:Hp} (h:H.take H0.length=H0):pre H0 H:=by
 have hl:H0.length<=H.length:=by
  have:=congrArg List.length h
  rw [List.length_take]at this;omega
 refine⟨List.range H0.length,List.nodup_range,?_⟩
 refine List.ext_getElem (by simp) (λi h1 h2 => ?_)
 simp only [List.length_map]at h2
 simp only [List.getElem_map,List.getElem_range]
 have:H0[i]? = H[i]? := by
  conv=>lhs;rw [<- h]
  rw [List.getElem?_take,if_pos h2]
 rw [<- this,List.getElem?_eq_getElem h2]
theorem FW {H0 H:Hp} {is:List Nat} (h:is.map (λi=>H[i]?)=H0.map some):is.length=H0.length/\∀(i:Nat) (h1:i<is.length) (h2:i<H0.length),H[is[i]]? = some H0[i]:=by
 have hl:is.length=H0.length:=by simpa using congrArg List.length h
 refine⟨hl,λi h1 h2 => ?_⟩
 have:=congrArg (λl=>l[i]?) h
 simpa [List.getElem?_map,List.getElem?_eq_getElem h1,List.getElem?_eq_getElem h2]using this
theorem Ag.pre {S:Store} {t:Nat} {H0:Hp} (h:pre H0 H) (L:Ag H S t):Ag H0 S t:=by
 obtain ⟨is,W,X⟩:=h
 obtain ⟨hl,J⟩:=FW X
 refine⟨L.pos,?_,λp Y => ?_⟩
 ·refine List.pairwise_iff_getElem.2 (λa b R hb M e => ?_)
  simp only [List.length_map]at R hb
  simp only [List.getElem_map]at e
  have B:=List.getElem?_eq_some_iff.1 (J a (by omega) R)
  have F:=List.getElem?_eq_some_iff.1 (J b (by omega) hb)
  obtain ⟨N,B⟩:=B
  obtain ⟨O,F⟩:=F
  have I:is[a]≠is[b]:=λe=>by
   have:=(List.pairwise_iff_getElem.1 W) a b (by omega) (by omega) M
   exact this e
  have A:=L.nd
  rcases Nat.lt_or_gt_of_ne I with o|o
  ·have:=(List.pairwise_iff_getElem.1 A) is[a] is[b] (by simpa using N) (by simpa using O) o
   simp only [List.getElem_map]at this
   rw [B,F]at this
   exact this e
  ·have:=(List.pairwise_iff_getElem.1 A) is[b] is[a] (by simpa using O) (by simpa using N) o
   simp only [List.getElem_map]at this
   rw [B,F]at this
   exact this e.symm
 ·obtain ⟨i,hi,rfl⟩:=List.getElem_of_mem Y
  exact L.at_ _ (List.mem_of_getElem? (J i (by omega) hi))
def Mh {β:Type} (h:β->List (Nat×V)) (o:β->Hp) (R:β->Prop):(Nat->V)->Hp->Prop:=λsl H=>∃x,R x/\Eng.pick (h x) sl=h x/\Eng.pre (o x) H
theorem wH_pre {c:Code} {H0:Hp} (h:Eng.pre H0 H) (A:wH C c Q sl H0):wH C c Q sl H:=nP A (λS t o=>⟨S,.refl _,o.pre h⟩)
theorem kT {c:Code} {β:Type} (o:β->List (Nat×V)) (A:β->Hp) (R:β->Prop) (h1:wH C c (I5 (Mh o A R) Q) sl H) (h2:∀x,R x->∀sl' B,Eng.pick (o x) sl'=o x->Eng.pre (A x) B->Q .normal sl' B):wH C c Q sl H:=by
 refine OV (λe sl H h => ?_) h1
 cases e with
 | normal =>
  obtain ⟨x,I,J,F⟩:=h
  exact h2 x I _ _ J F
 | _=>exact h
theorem aN {c:Code} {H0:Hp} (o:List (Nat×V)) (B:Eng.pick o sl=o) (A:Eng.pre H0 H) (h:wH C c Q (envS o) H0):wH C c Q sl H:=wH_pre A (Qk o B h)
def loopE {β:Type} (o:β->List (Nat×V)) (A:β->Hp) (R:β->Prop) (m:β->Nat) (x:β) (sl:Nat->V) (H:Hp):Prop:=∃h,R h/\m h<m x/\pick (o h) sl=o h/\pre (A h) H
def LK {β:Type} (h:β->List (Nat×V)) (o:β->Hp) (R:β->Prop) (m:β->Nat) (x:β) (Q:QH):QH
 | .normal,sl,H=>loopE h o R m x sl H
 | e,sl,H=>Q e sl H
theorem M5 {h:List (Nat×V)} {S:Store} {t:Nat} (o:pick h sl=h):Gst ⟨sl,S,t⟩ ⟨envS h,S,t⟩:=by
 have:=Gst.forget ⟨sl,S,t⟩ (h.map (·.1))
 have e:((h.map (·.1)).map λk=>(k,sl k))=h:=by rw [List.map_map];exact o
 simp only [e]at this
 exact this
open Classical in
theorem FY {c:Code} {β:Type} (o:β->List (Nat×V)) (W:β->Hp) (R:β->Prop) (m:β->Nat) (M:β) (hx:R M) (he:pick (o M) sl=o M) (hH:pre (W M) H)
  (h:∀x,R x->wH C c (LK o W R m x Q) (envS (o x)) (W x)):wH C (.loop c) Q sl H:=by
 intro ok S t Y
 have ag:=Y.pre hH
 let I:St->Nat->Prop:=λσ n=>∃x,R x/\m x=n/\Ag (W x) σ.store σ.tick/\σ.slots=envS (o x)
 have key:∀σ n,I σ n->∃N,Gst σ N/\wpD C c (seqQ (λB=>∃L,Gst B L/\∃A,A<n/\I L A) (M7 Q)) N:=by
  rintro ⟨sl',S',t'⟩ n ⟨x,hR,hm,ag',rfl⟩
  obtain ⟨N,hg,hw⟩:=h x hR ok S' t' ag'
  refine⟨N,hg,l6 c (λe σ h => ?_) hw⟩
  obtain ⟨H',h1,h2⟩:=h
  cases e with
  | normal =>
   obtain ⟨Z,hR',O,he',hp⟩:=h2
   exact⟨⟨envS (o Z),σ.store,σ.tick⟩,M5 he',m Z,by omega,Z,hR',rfl,h1.pre hp,rfl⟩
  | _=>exact⟨H',h1,h2⟩
 let J:St->Nat->Prop:=λN n=>wpD C c (seqQ (λB=>∃L,Gst B L/\∃A,A<n/\I L A) (M7 Q)) N
 have hI0:I ⟨envS (o M),S,t⟩ (m M):=⟨M,hx,rfl,ag,rfl⟩
 obtain ⟨σ0,X,hJ0⟩:=key _ _ hI0
 refine⟨⟨sl,S,t⟩,.refl _,?_⟩
 show wpD C (.loop c) (M7 Q) _
 refine⟨λσ=>∃n,J σ n,λσ=>leastOf (J σ),⟨σ0,(M5 he).trans X,_,hJ0⟩,λσ hJ => ?_⟩
 obtain ⟨h1,h2⟩:=leastOf_spec hJ
 refine l6 c (λe B hq => ?_) h1
 cases e with
 | normal =>
  obtain ⟨L,hg3,A,O,hI⟩:=hq
  obtain ⟨σ4,hg4,F⟩:=key L A hI
  refine⟨σ4,hg3.trans hg4,⟨A,F⟩,?_⟩
  have:=(leastOf_spec (p:=J σ4) ⟨A,F⟩).2 A F
  exact Nat.lt_of_le_of_lt this O
 | _=>exact hq
theorem AgR.start {S:Store} {t:Nat} (h:Ag H S t) (ops:List Oper):AgR H S t ops:=⟨h.pos,h.nd,λp o=>⟨.inl (h.at_ p o).1,(h.at_ p o).2⟩⟩
theorem AgR.fin {S:Store} {t:Nat} (h:AgR H S t []):Ag H S (t+1):=⟨Nat.succ_pos _,h.nd,λp o=>⟨by rcases (h.at_ p o).1 with h1 | ⟨h1,_⟩ <;> omega,(h.at_ p o).2⟩⟩
theorem AgR.tail {S:Store} {t:Nat} {o:Oper} {rest:List Oper} (h:AgR H S t (o::rest)):AgR H S t rest:=⟨h.pos,h.nd,λp A=>⟨by
 rcases (h.at_ p A).1 with h1|⟨h1,h2⟩
 ·exact .inl h1
 ·exact .inr ⟨h1,λo ho=>h2 o (List.mem_cons_of_mem _ ho)⟩,(h.at_ p A).2⟩⟩
theorem uC.tail {o:Oper} {rest:List Oper} (h:uC C (o::rest)):uC C rest:=⟨by
 have:=h.1;simp only [mF,Bool.and_eq_true]at this;exact this.2,λo ho=>h.2 o (List.mem_cons_of_mem _ ho)⟩
theorem au {id:Nat} {ops:List Oper} (h:bu none C ops (λsl H=>Q .normal sl H) ops sl H):wH C (.region id ops.toArray false) Q sl H:=λok S t B=>by
 refine⟨_,.refl _,?_⟩
 simp only [sF,Bool.not_false,Bool.true_or,Bool.and_true]at ok
 have A:=ok
 simp only [Br,Bool.and_eq_true]at A
 have h1:=h S t ⟨A.2,λo ho=>List.all_eq_true.1 A.1 o ho⟩ (AgR.start B _)
 refine⟨ok,?_⟩
 exact yc (λsl S ⟨F,h1,h2⟩=>⟨F,h1.fin,h2⟩) _ _ _ h1
theorem bv {id:Nat} {ops:List Oper} (h:bu (some []) C ops (λsl H=>Q .normal sl H) ops sl H):wH C (.region id ops.toArray true) Q sl H:=λok S t J=>by
 refine⟨_,.refl _,?_⟩
 simp only [sF,Bool.and_eq_true,Bool.not_true,Bool.false_or]at ok
 obtain ⟨B,hm,hl⟩:=ok
 have A:=B
 simp only [Br,Bool.and_eq_true]at A
 have h1:=h S t ⟨A.2,λo ho=>List.all_eq_true.1 A.1 o ho⟩ (AgR.start J _) 0 [] (by simp) (λp I=>by cases I) (λe F=>by cases F)
 refine⟨B,hm,hl,?_⟩
 exact AR (λsl S ⟨L,h1,h2⟩=>⟨L,h1.fin,h2⟩) _ _ _ _ _ h1
variable {q:Qm} {all rest:List Oper} {K:(Nat->V)->Hp->Prop}
theorem ah (h:K sl H):bu q C all K [] sl H:=λS tk _ o=>by
 cases q with
 | none=>exact⟨H,o,h⟩
 | some Γ=>intro k L _ _ _;exact⟨H,o,h⟩
theorem Er {all:List Oper} {k:Nat} {A:Eff} {T:List Nm} {w:Bool} {Γ:List Fp} (J:(∀x∈A.req,x.1∈T)/\∀x∈A.upd,x.1∈T) (O:w=false->A.upd=[]) (hf:QT all k T w Γ):∀{L:List (Nat×Eff)},LogOK Γ L->F4 all k A L
 | [],_=>trivial
 | (j,B)::L,h=>by
  refine⟨?_,Er J O hf (λp F=>h p (by simp [F]))⟩
  rcases h (j,B) (by simp)with⟨h1,h2⟩|⟨e,W,h1,h2,N,Z⟩
  ·exact .inl (by unfold Dis;dsimp only at h1 h2;rw [h1,h2];simp)
  ·have key:∀{Γ:List Fp},QT all k T w Γ->e∈Γ->(w=false/\e.2.2=false)\/(∀n∈T,n∉e.2.1)\/Cw all 8 e.1 k=true:=by
    intro Γ
    induction Γ with
    | nil=>intro _ h;cases h
    | cons x Γ Y =>
     intro h1 h2
     rcases List.mem_cons.1 h2 with rfl|h2
     ·exact h1.1
     ·exact Y h1.2 h2
   rcases key hf W with⟨o,R⟩|o|o
   ·have X:=O o
    have M:=Z R
    exact .inl (by unfold Dis;dsimp only at M;rw [X,M];simp)
   ·refine .inl ⟨λp F=>⟨λx I e' => ?_,λx I e' => ?_⟩,λx I p F e' => ?_⟩
    ·exact o _ (J.2 p F) (e' ▸ h2 x I)
    ·exact o _ (J.2 p F) (e' ▸ N x I)
    ·exact o _ (J.1 p F) (e' ▸ N x I)
   ·rw [h1]at o;exact .inr o
theorem mV {o:Oper} {v:V} (Y:aQ all sl o=some true) (I:∀S tk (W:Eff->Prop),AgR H S tk (o::rest)->(∀A,A.upd=[]->A.req=[]->A.val=v->W A)->opD C o sl S tk W)
  (h:bu q C all K rest (eF sl o.dst v) H):bu q C all K (o::rest) sl H:=λS tk ok R=>by
 have N:=h S tk ok.tail R.tail
 cases q with
 | none =>
  refine⟨sl,S,.refl _,?_⟩
  simp only [Y]
  exact .inl (I S tk _ R (λA B M O=>by rw [B,O];exact N))
 | some Γ =>
  intro k L hk J X
  simp only [opsL,Y]
  refine I S tk _ R (λA B M O=>⟨?_,?_⟩)
  ·refine Er (T:=[]) (w:=false) (Γ:=Γ) ⟨by rw [M];simp,by rw [B];simp⟩ (λ_=>B) ?_ J
   clear N J h X
   induction Γ with
   | nil=>trivial
   | cons e Γ ih=>exact⟨.inr (.inl (λn Z=>by cases Z)),ih⟩
  rw [B,O]
  exact N (k+1) ((k,A)::L) (by simp only [List.length_cons]at hk;omega) (λp F=>by
   rcases List.mem_cons.1 F with F|F
   ·rw [F];exact .inl ⟨B,M⟩
   ·exact J p F) X.tail
theorem dI {o:Oper} (B:aQ all sl o=some false) (h:bu q C all K rest (eF sl o.dst .none) H):bu q C all K (o::rest) sl H:=λS tk ok M=>by
 have A:=h S tk ok.tail M.tail
 cases q with
 | none =>
  refine⟨sl,S,.refl _,?_⟩
  simp only [B]
  exact A
 | some Γ =>
  intro k L F J I
  simp only [opsL,B]
  exact A (k+1) L (by simp only [List.length_cons]at F;omega) J I.tail
theorem LV {o:Oper} (k:Nat) (w:Bool) (N:q=none\/Nat.beq all.length (k+(rest.length+1))=true) (hw:aQ all sl o=some true)
  (R:∀S tk (K':Eff->Prop),uC C (o::rest)->AgR H S tk (o::rest)->oldQ q tk (o::rest) ->
   (∀A W T,okQ q all k T w->(∀m∈T,K7 tk rest m)->((∀x∈A.req,x.1∈T)/\∀x∈A.upd,x.1∈T)->(w=false->A.upd=[])->AgR W (fP S A.upd) tk rest->bu (uT q k T w) C all K rest (eF sl o.dst A.val) W->K' A)->opD C o sl S tk K') :
  bu q C all K (o::rest) sl H:=λS tk ok ag=>by
 cases q with
 | none =>
  refine⟨sl,S,.refl _,?_⟩
  simp only [hw]
  exact .inl (R S tk _ ok ag trivial (λA W T _ _ _ _ B h=>h _ tk ok.tail B))
 | some Γ =>
  intro k' L J Z hO
  have X:k'=k:=by
   rcases N with N|N
   ·cases N
   ·have:=Nat.eq_of_beq_eq_true N
    simp only [List.length_cons]at J
    omega
  subst X
  simp only [opsL,hw]
  refine R S tk _ ok ag hO (λA W T hf M Y O B h=>⟨Er Y O hf Z,?_⟩)
  have h':=h _ tk ok.tail B
  exact h' (k'+1) ((k',A)::L) (by simp only [List.length_cons]at J;omega) (λp I=>by
   rcases List.mem_cons.1 I with I|I
   ·rw [I];exact .inr ⟨(k',T,w),by simp,rfl,Y.1,Y.2,O⟩
   ·rcases Z p I with h1|⟨e,h1,h2⟩
    ·exact .inl h1
    ·exact .inr ⟨e,by simp [h1],h2⟩) (λe F m hm=>by
   rcases List.mem_append.1 F with F|F
   ·exact (hO e F m hm).tail
   ·rw [List.mem_singleton]at F;subst F;exact M m hm)
theorem AgR.old {S:Store} {tk:Nat} {l:List Oper} (A:AgR H S tk l) {m:Nm} (h:m∈H.map (·.1)):K7 tk l m:=by
 obtain ⟨p,o,rfl⟩:=List.mem_map.1 h
 exact (A.at_ p o).1
theorem uX {o:Oper} (k:Nat) (T:List Nm) (w:Bool) (L:q=none\/Nat.beq all.length (k+(rest.length+1))=true) (hf:∀S tk,AgR H S tk (o::rest)->okQ q all k T w) (I:∀m∈T,m∈H.map (·.1)) (R:aQ all sl o=some true)
  (J:∀S tk (B:Eff->Prop),uC C (o::rest)->AgR H S tk (o::rest) ->
   (∀A h,((∀x∈A.req,x.1∈T)/\∀x∈A.upd,x.1∈T)->(w=false->A.upd=[])->AgR h (fP S A.upd) tk rest->bu (uT q k T w) C all K rest (eF sl o.dst A.val) h->B A)->opD C o sl S tk B) :
  bu q C all K (o::rest) sl H :=
 LV k w L R (λS tk B ok F _ N=>J S tk B ok F (λA h h1 h2 M O=>N A h T (hf S tk F) (λm hm=>(F.old (I m hm)).tail) h1 h2 M O))
theorem Bj {H:Hp} {k:Nat} {n:Nm} {b:Option Box} (h:H[k]? = some (n,b)):∀m ∈ [n],m∈H.map (·.1):=λm hm=>by
 rw [List.mem_singleton]at hm;subst hm
 exact List.mem_map.2 ⟨_,List.mem_of_getElem? h,rfl⟩
theorem CE {q:Qm} {all:List Oper} {k:Nat} {w:Bool}:okQ q all k [] w:=by
 cases q with
 | none=>trivial
 | some Γ =>
  show QT all k [] w Γ
  induction Γ with
  | nil=>trivial
  | cons e Γ o=>exact⟨.inr (.inl (λn h=>by cases h)),o⟩
theorem Pk {q:Qm} {all:List Oper} {k:Nat} {T o:List Nm} {w:Bool} (hs:∀m∈o,m∈T) (h:okQ q all k T w):okQ q all k o w:=by
 cases q with
 | none=>trivial
 | some Γ =>
  simp only [okQ]at h ⊢
  induction Γ with
  | nil=>trivial
  | cons e Γ B=>exact⟨h.1.imp id (λh=>h.imp (λh n A=>h n (hs n A)) id),B h.2⟩
theorem okQ_add {q:Qm} {all rest:List Oper} {k tk:Nat} {T:List Nm} {n:Nm} (h:okQ q all k T true) (ho:oldQ q tk rest) (A:¬K7 tk rest n):okQ q all k (T++[n]) true:=by
 cases q with
 | none=>trivial
 | some Γ =>
  simp only [oldQ]at ho
  simp only [okQ]at h ⊢
  induction Γ with
  | nil=>trivial
  | cons e Γ B =>
   refine⟨?_,B h.2 (λe o=>ho e (by simp [o]))⟩
   rcases h.1 with⟨h1,_⟩|h1|h1
   ·cases h1
   ·refine .inr (.inl (λm hm o => ?_))
    rcases List.mem_append.1 hm with hm|hm
    ·exact h1 m hm o
    ·rw [List.mem_singleton]at hm;subst hm;exact A (ho e (by simp) m o)
   ·exact .inr (.inr h1)
theorem Gst.at_tick {a b:St} (h:Gst a b) (t:Nat):Gst ⟨a.slots,a.store,t⟩ ⟨b.slots,b.store,t⟩:=by
 induction h with
 | refl σ=>exact .refl _
 | forget σ ks=>exact .forget ⟨σ.slots,σ.store,t⟩ ks
 | froz σ n=>exact .froz ⟨σ.slots,σ.store,t⟩ n
 | co σ k=>exact .co ⟨σ.slots,σ.store,t⟩ k
 | coB σ n sz cs h=>exact .coB ⟨σ.slots,σ.store,t⟩ n sz cs h
 | coM σ n sz cs o h hl hc=>exact .coM ⟨σ.slots,σ.store,t⟩ n sz cs o h hl hc
 | shr σ n sz m xs h=>exact .shr ⟨σ.slots,σ.store,t⟩ n sz m xs h
 | pm σ n h=>exact .pm ⟨σ.slots,σ.store,t⟩ n h
 | wild0 σ i sz hi=>exact .wild0 ⟨σ.slots,σ.store,t⟩ i sz hi
 | wild σ i n sz k len xs h hi=>exact .wild ⟨σ.slots,σ.store,t⟩ i n sz k len xs h hi
 | trans _ _ h1 h2=>exact h1.trans h2
theorem h_ghost {o:Oper} {sl':Nat->V} {J:Hp} (hw:∀{c:Code} {Q:QH},wH C c Q sl' J->wH C c Q sl H) (W:J.map (·.1)=H.map (·.1)) (h:bu none C all K (o::rest) sl' J):bu none C all K (o::rest) sl H:=λS tk ok F=>by
 have Z:wH C .skip (λ_ A L=>A=sl'/\L=J) sl H:=hw (av ⟨rfl,rfl⟩)
 have R:Ag H S (tk+1):=⟨Nat.succ_pos _,F.nd,λp B=>⟨by rcases (F.at_ p B).1 with h1 | ⟨h1,_⟩ <;> omega,(F.at_ p B).2⟩⟩
 obtain ⟨σ,hg,L,I,hs,rfl⟩:=Z rfl S (tk+1) R
 have M:=hg.at_tick tk
 subst hs
 have ag3:AgR L σ.store tk (o::rest):=⟨F.pos,I.nd,λp B=>by
  have hm:p.1∈H.map (·.1):=by rw [<- W];exact List.mem_map.2 ⟨p,B,rfl⟩
  obtain ⟨p',O,Y⟩:=List.mem_map.1 hm
  exact⟨by rw [<- Y];exact (F.at_ p' O).1,(I.at_ p B).2⟩⟩
 have:=h σ.store tk ok ag3
 show Fh _ _ _ _ (o::rest) sl S
 obtain ⟨A,X,N,h3⟩:=this
 exact⟨A,X,M.trans N,h3⟩
theorem Om {o:Oper} (M:aQ all sl o=some true)
  (I:∀S tk (J:Eff->Prop),uC C (o::rest)->AgR H S tk (o::rest)->(∀A F,AgR F (fP S A.upd) tk rest->bu none C all K rest (eF sl o.dst A.val) F->J A)->opD C o sl S tk J):bu none C all K (o::rest) sl H:=λS tk ok L=>by
 refine⟨sl,S,.refl _,?_⟩
 simp only [M]
 exact .inl (I S tk _ ok L (λA F B h=>h _ tk ok.tail B))
theorem dis1 {n m:Nm} (h:n≠m):∀x ∈ [n],x ∉ [m]:=λx o hm=>by
 rw [List.mem_singleton]at o hm;exact h (o.symm.trans hm)
theorem R8 {S:Store} {tk:Nat} {l:List Oper} (o:AgR H S tk l) {i j:Nat} {n m:Nm} {b c:Option Box} (hi:H[i]? = some (n,b)) (hj:H[j]? = some (m,c)) (h:i≠j):n≠m:=λe=>by
 have h1:=List.getElem?_eq_some_iff.1 hi
 have h2:=List.getElem?_eq_some_iff.1 hj
 exact h (mh o.nd i j (by simpa using h1.1) (by simpa using h2.1) (by simp [h1.2,h2.2,e]))
theorem OO {α:Type} {enc:α->List D} {xs:List α} {dst:Option Tmp} {t ty A e:TypeId} {x:Operand} {pos:String} {after:Array Edge} {g:Option (Nat×Bool)} (B:C.P.underlying t=some (.slice e)) (F:ev sl x = .d (.sl (xs.map enc)))
  (J:aQ all sl ⟨dst,.binOp .eql t x (.const (.slice none 0 0)) A,ty,pos,after,g⟩=some true)
  (h:∀b:Bool,(b=true->xs=[])->bu none C all K rest (eF sl dst (.d (.bool b))) H):bu none C all K (⟨dst,.binOp .eql t x (.const (.slice none 0 0)) A,ty,pos,after,g⟩::rest) sl H:=λS tk ok I=>by
 refine⟨sl,S,.refl _,?_⟩
 simp only [J]
 refine .inr ⟨xs.map enc,e,F,B,λb hb=>h b (λo => ?_) S tk ok.tail I.tail⟩
 cases xs with
 | nil=>rfl
 | cons x xs=>have:=hb (by simp);rw [this]at o;cases o
end
end Go.Eng

/-
  THE ENGINE: loads, stores and fields by the facts of a type; what a naming leaves alone.
-/
namespace Go.Eng
set_option linter.unusedSectionVars false
variable [DM]
set_option linter.unusedVariables false
def LA (agg:Bool) (size:Nat) (n:Nm) (i j:Nat):Option Box->Option Eff
 | some (.vec sz xs)=>match xs[i]? with
  | some cs=>(rdD agg size (cs.drop j)).map λv=>⟨[(n,.vec sz xs)],[],v⟩
  | none=>none
 | some (.froz sz xs)=>match xs[i]? with
  | some cs=>(rdD agg size (cs.drop j)).map λv=>⟨[(n,.froz sz xs)],[],v⟩
  | none=>none
 | some (.cells sz cs)=>(rdV agg size (cs.drop (i*sz+j))).map λv=>⟨[(n,.cells sz cs)],[],v⟩
 | _=>none
theorem DR {P:Program} {t:TypeId} {agg:Bool} {size:Nat} (h1:szT P t=some size) (h2:bW P t=agg) (S:Store) (n:Nm) (i j:Nat):vX P t S (.ref n i j)=LA agg size n i j (S n):=by
 simp only [vX,h1,h2,LA]
 cases S n with
 | none=>rfl
 | some b=>cases b <;> rfl
theorem NR {P:Program} {t:TypeId} {agg:Bool} {size:Nat} (h1:szT P t=some size) (h2:bW P t=agg) (S:Store) (cs:List D):vX P t S (.d (.ptr cs))=(rdD agg size cs).bind iE:=by
 simp only [vX,h1,h2]
def KP (size:Nat) (n:Nm) (i j:Nat) (x:V):Option Box->Option Eff
 | some (.cells sz cs) =>
  bif Nat.beq (bB x).length size&&Nat.ble (i*sz+j+size) cs.length&&(bB x).all kw&&Nat.blt sz 1048576 then
   some ⟨[(n,.cells sz cs)],[(n,some (.cells sz (splice cs (bB x) (i*sz+j))))],.none⟩
  else none
 | some (.vec sz xs)=>match xs[i]?,uH (bB x)with
  | some cs,some new =>
   bif Nat.beq new.length size&&Nat.ble (j+size) cs.length&&(bB x).all kw then
    some ⟨[(n,.vec sz xs)],[(n,some (.vec sz (xs.set i (splice cs new j))))],.none⟩
   else none
  | _,_=>none
 | _=>none
theorem Hy {P:Program} {t:TypeId} {size:Nat} (h1:szT P t=some size) (S:Store) (n:Nm) (i j:Nat) (x:V):vN P t S (.ref n i j) x=KP size n i j x (S n):=by
 simp only [vN,h1,KP]
 cases S n with
 | none=>rfl
 | some b=>cases b <;> rfl
theorem Hw {P:Program} {t:TypeId} {f off s:Nat} (h:bS P t f=some (off,s+1)) (n:Nm) (i j:Nat):kL P t (.ref n i j) f=some ⟨[],[],.ref n i (j+off)⟩:=by
 unfold bS at h
 unfold kL
 cases hf:zI P t f with
 | none=>rw [hf]at h;cases h
 | some o =>
  simp only [hf,Option.map_eq_some_iff]at h
  obtain ⟨A,h1,h2⟩:=h
  cases h2
  simp only [h1];rfl
theorem FC {P:Program} {t:TypeId} {f off s:Nat} (h:bS P t f=some (off,s+1)) (cs:List D):kL P t (.d (.ptr cs)) f=bif Nat.ble off cs.length then some ⟨[],[],.d (.ptr (cs.drop off))⟩else none:=by
 unfold bS at h
 unfold kL
 cases hf:zI P t f with
 | none=>rw [hf]at h;cases h
 | some o =>
  simp only [hf,Option.map_eq_some_iff]at h
  obtain ⟨A,h1,h2⟩:=h
  cases h2
  simp only [h1];rfl
def Nt (size:Nat) (x:V) (i:Int):Option Eff:=match x with
 | .d (.sl xs)=>match xs[i.toNat]? with
  | some cs=>bif Nat.beq cs.length size then iE (.d (.ptr cs))else none
  | none=>none
 | .vs n sz k len=>bif Nat.ble (i.toNat+1) len&&Nat.beq sz size then iE (.ref n (k+i.toNat) 0)else none
 | .d (.wild sz len)=>bif Nat.ble (i.toNat+1) len&&Nat.beq sz size then iE (.d (.wildp size))else none
 | _=>none
theorem xx {P:Program} {t:TypeId} {size:Nat} (h:(bO P t).bind (szT P)=some size) (x:V) (k:IntKind) (i:Int):lT P t x (.d (.int k i))=bif decide (0<=i)then Nt size x i else none:=by
 simp only [lT,h,Nt]
 rfl
theorem idxB_sl {size:Nat} {xs:List (List D)} {i:Int} {cs:List D} (h:xs[i.toNat]? = some cs) (hl:cs.length=size):Nt size (.d (.sl xs)) i=some ⟨[],[],.d (.ptr cs)⟩:=by
 subst hl
 simp only [Nt,h,Nat.beq_refl,cond_true];rfl
theorem idxB_vs {size:Nat} {n:Nm} {k len:Nat} {i:Int} (h:i.toNat<len):Nt size (.vs n size k len) i=some ⟨[],[],.ref n (k+i.toNat) 0⟩:=by
 simp only [Nt,Nat.beq_refl,Bool.and_true,Nat.ble_eq_true_of_le h,cond_true];rfl
theorem Cx (l:List Box) (i:Nat):iY l (ax i)=l[i]? := by simp only [iY,sJ]
theorem wB {ρ:List Nm} {v:V} (h:okV 0 v=true):ren ρ v=v :=
 BU ρ 0 (λn o=>by obtain ⟨i,hi,_⟩:=wy o;exact absurd hi (Nat.not_lt_zero i)) _ h
theorem Ky {ρ:List Nm} {vs:List V} (h:okL 0 vs=true):renL ρ vs=vs :=
 yS ρ 0 (λn o=>by obtain ⟨i,hi,_⟩:=wy o;exact absurd hi (Nat.not_lt_zero i)) _ h
theorem y9 {ρ:List Nm} {b:Box} (h:b.ok 0=true):b.ren ρ=b:=by
 cases b with
 | cells sz cs=>simp only [Box.ok]at h;simp only [Box.ren,Ky h]
 | pmap es =>
  simp only [Box.ren,Box.pmap.injEq]
  exact (List.map_congr_left (λe o=>by rw [wB (List.all_eq_true.1 h e o)];rfl)).trans (List.map_id _)
 | iter cur left =>
  simp only [Box.ok,Bool.and_eq_true]at h
  simp only [Box.ren,Box.iter.injEq]
  refine⟨?_,(List.map_congr_left (λe o=>by rw [wB (List.all_eq_true.1 h.2 e o)];rfl)).trans (List.map_id _)⟩
  cases cur with
  | none=>rfl
  | some x=>simp only [Option.map_some,wB (v:=x.2) (by simpa using h.1)]
 | _=>rfl
theorem Io {k k':Nat} (h:k<=k') {n:Nm} (o:okN k n=true):okN k' n=true:=by
 unfold okN at *
 split
 ·rename_i i hi
  rw [hi]at o
  have h1:Nat.blt i k=true:=o
  simp only [Nat.blt_eq]at h1 ⊢
  omega
 ·rename_i hi;rw [hi]at o;exact o
mutual
theorem vJ {k k':Nat} (h:k<=k'):∀(v:V),okV k v=true->okV k' v=true
 | .ref n i j,o=>by simp only [okV]at *;exact Io h o
 | .vs n sz a len,o=>by simp only [okV]at *;exact Io h o
 | .map n,o=>by simp only [okV]at *;exact Io h o
 | .fn f caps,o=>by simp only [okV]at *;exact xP h caps o
 | .agg cs,o=>by simp only [okV]at *;exact xP h cs o
 | .tup vs,o=>by simp only [okV]at *;exact xP h vs o
 | .d _,_=>rfl
 | .nil,_=>rfl
 | .nilm,_=>rfl
 | .nili,_=>rfl
 | .none,_=>rfl
 | .any,_=>rfl
theorem xP {k k':Nat} (h:k<=k'):∀(vs:List V),okL k vs=true->okL k' vs=true
 | [],_=>rfl
 | v::vs,o=>by
  simp only [okL,Bool.and_eq_true]at *
  exact⟨vJ h v o.1,xP h vs o.2⟩
end
theorem Box.ok_mono {k k':Nat} (h:k<=k') {b:Box} (hb:b.ok k=true):b.ok k'=true:=by
 cases b with
 | cells sz cs=>exact xP h cs hb
 | pmap es=>exact List.all_eq_true.2 (λe o=>vJ h _ (List.all_eq_true.1 hb e o))
 | iter cur left =>
  simp only [Box.ok,Bool.and_eq_true]at hb ⊢
  refine⟨?_,List.all_eq_true.2 (λe o=>vJ h _ (List.all_eq_true.1 hb.2 e o))⟩
  cases cur with
  | none=>rfl
  | some x=>exact vJ h _ (by simpa using hb.1)
 | _=>rfl
theorem NU {i k:Nat} (h:i<k):okN k (ax i)=true:=by simp only [okN,sJ];simpa [Nat.blt_eq]using h
end Go.Eng

/-
  THE ENGINE: the rules for single operations over a list of known boxes.
-/
namespace Go.Eng
set_option linter.unusedSectionVars false
variable [DM]
set_option linter.unusedVariables false
abbrev w64 (n:Int):Int:=IntKind.i64.wrap n
abbrev vI (n:Int):V := .d (.int .i64 n)
abbrev vB (b:Bool):V := .d (.bool b)
abbrev vS (s:ByteArray):V := .d (.str s)
abbrev dl {α:Type} (enc:α->List D) (xs:List α):D := .sl (xs.map enc)
abbrev vL {α:Type} (enc:α->List D) (xs:List α):V := .d (.sl (xs.map enc))
abbrev vV {α:Type} (n:Nm) (sz:Nat) (xs:List α):V := .vs n sz 0 xs.length
abbrev bV {α:Type} (sz:Nat) (enc:α->List D) (xs:List α):Box := .vec sz (xs.map enc)
abbrev bF {α:Type} (sz:Nat) (enc:α->List D) (xs:List α):Box := .froz sz (xs.map enc)
def gV {α:Type} (n:Nm) (sz:Nat):List α->V
 | [] => .nil
 | x::xs => .vs n sz 0 (x::xs).length
def gB {α:Type} (sz:Nat) (enc:α->List D):List α->Option Box
 | []=>none
 | x::xs=>some (.vec sz ((x::xs).map enc))
def gF {α:Type} (sz:Nat) (enc:α->List D):List α->Option Box
 | []=>none
 | x::xs=>some (.froz sz ((x::xs).map enc))
def eI (n:Int):List D:=[.int .i64 n]
def eS (s:ByteArray):List D:=[.str s]
def eB (b:Bool):List D:=[.bool b]
def idx {α:Type} (xs:List α) (i:Int):Option α:=if 0<=i then xs[i.toNat]? else none
section
variable {C:Cfg} {sl:Nat->V} {H:Hp} {q:Qm} {all rest:List Oper} {K:(Nat->V)->Hp->Prop}
variable {dst:Option Tmp} {d:Nat} {t ty:TypeId} {pos:String} {after:Array Edge} {g:Option (Nat×Bool)}
theorem wt (h:g=none) {op:Op}:aQ all sl ⟨dst,op,ty,pos,after,g⟩=some true:=by subst h;rfl
theorem wz {op:Op}:aQ all sl ⟨dst,op,ty,pos,after,none⟩=some true:=rfl
theorem wg {j:Nat} {o b:Bool} {c:Bool} {A:Nat} {op:Op} (h1:(all[j]?).bind (·.dst)=some A) (h2:sl A = .d (.bool b)) (h:(b==o)=c):aQ all sl ⟨dst,op,ty,pos,after,some (j,o)⟩=some c:=by
 subst h;simp only [aQ,h1,h2]
theorem wa {j:Nat} {o b:Bool} {c:Bool} {A:Nat} {op:Op} (h1:(all[j]?).bind (·.dst)=some A:=by rfl) (h2:sl A = .d (.bool b):=by rfl) (h:(b==o)=c:=by rfl):aQ all sl ⟨dst,op,ty,pos,after,some (j,o)⟩=some c:=wg h1 h2 h
theorem wn {j:Nat} {h:Bool} {o:Nat} {op:Op} (h1:(all[j]?).bind (·.dst)=some o) (h2:sl o = .none):aQ all sl ⟨dst,op,ty,pos,after,some (j,h)⟩=some false:=by
 simp only [aQ,h1,h2]
def EW (C:Cfg) (sl:Nat->V):Op->Option V
 | .move x | .assign x=>some (ev sl x)
 | .pick c a b=>QU (ev sl c) (ev sl a) (ev sl b)
 | .nilCheck x=>Ay (ev sl x)
 | .binOp op t x y _=>Jf C.P op t x y (ev sl x) (ev sl y)
 | .unOp op _ x=>unF op (ev sl x)
 | .convert s t x=>Ja C.P s t (ev sl x)
 | .makeFunc (.func f) first h=>bif Nat.beq first.size 0 then some (.fn f (h.toList.map (ev sl)))else none
 | .slice t x o hi mx=>oq C.P t (ev sl x) (o.map (ev sl)) (hi.map (ev sl)) (mx.map (ev sl))
 | .field t x f=>K8 C.P t (ev sl x) f
 | .index t x i=>zA C.P t (ev sl x) (ev sl i)
 | .extract x i=>Db (ev sl x) i
 | .build t parts=>bif (parts.toList.map λp=>(p.1,ev sl p.2)).all (λp=>(bB p.2).all kw)then Kw C.P t (parts.toList.map λp=>(p.1,ev sl p.2))else none
 | _=>none
theorem RI {op:Op} {v:V} (h:EW C sl op=some v) (S:Store) (tk:Nat) (B:Eff->Prop) (F:B ⟨[],[],v⟩):opD C ⟨dst,op,ty,pos,after,g⟩ sl S tk B:=by
 have fin:(∀c,op ≠ .call c)->qO C ⟨dst,op,ty,pos,after,g⟩ sl S tk=(EW C sl op).bind iE->opD C ⟨dst,op,ty,pos,after,g⟩ sl S tk B:=by
  intro hc e
  have e':qO C ⟨dst,op,ty,pos,after,g⟩ sl S tk=some ⟨[],[],v⟩:=by rw [e,h];rfl
  unfold opD
  split
  ·rename_i c A;exact absurd A (hc c)
  ·rw [e'];exact F
 have o:(∀c,op ≠ .call c)->(∃b,qO C ⟨dst,op,ty,pos,after,g⟩ sl S tk=orE ((EW C sl op).bind iE) b)->opD C ⟨dst,op,ty,pos,after,g⟩ sl S tk B:=by
  intro hc ⟨b,e⟩
  have e':qO C ⟨dst,op,ty,pos,after,g⟩ sl S tk=some ⟨[],[],v⟩:=by rw [e,h];rfl
  unfold opD
  split
  ·rename_i c A;exact absurd A (hc c)
  ·rw [e'];exact F
 cases op <;> first | (refine fin (λc e=>by cases e) ?_;rfl) | (cases h;done) | skip
 case convert s t x=>exact o (λc e=>by cases e) ⟨DT C.P s t S (ev sl x),rfl⟩
 case slice t x lo hi mx=>exact o (λc e=>by cases e) ⟨uZ C.P t S (ev sl x) (lo.map (ev sl)) (hi.map (ev sl)) (mx.map (ev sl)),rfl⟩
 case build t parts =>
  refine fin (λc e=>by cases e) ?_
  simp only [EW]at h ⊢
  simp only [qO]
  cases hb:(parts.toList.map λp=>(p.1,ev sl p.2)).all (λp=>(bB p.2).all kw)with
  | true=>simp only [cond_true]
  | false=>simp only [hb,cond_false]at h;cases h
 case makeFunc fn first captured =>
  cases fn with
  | func f =>
   refine fin (λc e=>by cases e) ?_
   simp only [EW]at h ⊢
   simp only [qO]
   cases hb:Nat.beq first.size 0 with
   | true=>simp only [cond_true];rfl
   | false=>simp only [hb,cond_false]at h;cases h
  | _=>cases h
theorem aJ {op:Op} (v:V) (F:aQ all sl ⟨dst,op,ty,pos,after,g⟩=some true) (B:EW C sl op=some v)
  (h:bu q C all K rest (eF sl dst v) H):bu q C all K (⟨dst,op,ty,pos,after,g⟩::rest) sl H :=
 mV F (λS tk o _ A=>RI B S tk o (A _ rfl rfl rfl)) h
theorem aF {x:Operand} {c b:Bool} (A:ev sl x = .d (.bool c)) (hc:c=b) (o:aQ all sl ⟨dst,.move x,ty,pos,after,g⟩=some true)
  (h:bu q C all K rest (eF sl dst (vB b)) H):bu q C all K (⟨dst,.move x,ty,pos,after,g⟩::rest) sl H :=
 aJ (vB b) o (by show some (ev sl x)=_;rw [A,hc]) h
end
end Go.Eng

/-
  THE ENGINE: the rules for operations over memory.
-/
namespace Go.Eng
set_option linter.unusedSectionVars false
variable [DM]
set_option linter.unusedVariables false
section
variable {C:Cfg} {sl:Nat->V} {H:Hp} {q:Qm} {all rest:List Oper} {K:(Nat->V)->Hp->Prop}
variable {dst:Option Tmp} {d:Nat} {t ty:TypeId} {pos:String} {after:Array Edge} {g:Option (Nat×Bool)}
theorem AgR.get {S:Store} {tk:Nat} {l:List Oper} (o:AgR H S tk l) {i:Nat} {n:Nm} {b:Box} (h:H[i]? = some (n,some b)):S n=some b :=
  (o.at_ _ (List.mem_of_getElem? h)).2 b rfl
theorem AgR.set {S:Store} {tk:Nat} {l:List Oper} (A:AgR H S tk l) {i:Nat} {n:Nm} {I b:Option Box} {b':Option Box} (h:H[i]? = some (n,I)) (hb:∀x,b=some x->b'=some x):AgR (H.set i (n,b)) (supd S n b') tk l:=by
  have hi:i<H.length:=by
    have:=List.getElem?_eq_some_iff.1 h
    exact this.1
  have B:H[i]=(n,I):=by have:=List.getElem?_eq_some_iff.1 h;exact this.2
  have hm:(H.set i (n,b)).map (·.1)=H.map (·.1):=by
    apply List.ext_getElem
    · simp
    · intro j h1 h2
      simp only [List.length_map]at h2
      simp only [List.getElem_map,List.getElem_set]
      split
      · rename_i e;subst e;rw [B]
      · rfl
  refine⟨A.pos,by rw [hm];exact A.nd,λp J => ?_⟩
  obtain ⟨j,hj,rfl⟩:=List.getElem_of_mem J
  simp only [List.length_set]at hj
  simp only [List.getElem_set]
  split
  · rename_i e;subst e
    have:=A.at_ (n,I) (by rw [<- B];exact List.getElem_mem hi)
    exact⟨this.1,λx F=>by simp only [supd,if_true];exact hb x F⟩
  · rename_i e
    have h1:=A.at_ H[j] (List.getElem_mem hj)
    refine⟨h1.1,λx F => ?_⟩
    have o:H[j].1≠n:=λo=>by
      have:=A.nd
      have h2:(H.map (·.1))[j]'(by simpa using hj)=(H.map (·.1))[i]'(by simpa using hi):=by simp [B,o]
      exact e (mh A.nd i j (by simpa using hi) (by simpa using hj) h2.symm)
    simp only [supd,if_neg o]
    exact h1.2 x F
theorem new_ne {S:Store} {tk:Nat} {o:Oper} (ok:uC C (o::rest)) (I:AgR H S tk (o::rest)) (A:o.dst=some d) (j:Nat):∀p∈H,p.1≠(d+100000*j,tk):=λp B e=>by
  have h:=(qg (ok.2 o (by simp)) A).2
  rcases (I.at_ p B).1 with h1|⟨_,h1⟩
  · rw [e]at h1;exact Nat.lt_irrefl _ h1
  · have:=h1 o (by simp)
    rw [e,A]at this
    have F:(d+100000*j) % 100000=d:=(Nat.add_mul_mod_self_left d 100000 j).trans (Nat.mod_eq_of_lt h)
    simp only [F]at this
    exact this rfl
theorem AgR.new {S:Store} {tk:Nat} {o:Oper} (ok:uC C (o::rest)) (F:AgR H S tk (o::rest)) (J:o.dst=some d) (b:Box):AgR (H++[((d,tk),some b)]) (supd S (d,tk) (some b)) tk rest:=by
  have A:=new_ne ok F J 0
  simp only [Nat.mul_zero,Nat.add_zero]at A
  have M:=(qg (ok.2 o (by simp)) J).2
  refine⟨F.pos,?_,λp h => ?_⟩
  · rw [List.map_append,List.nodup_append]
    refine⟨F.nd,by simp,λa O b hb => ?_⟩
    simp only [List.map_cons,List.map_nil,List.mem_singleton]at hb
    obtain ⟨p,h,rfl⟩:=List.mem_map.1 O
    rw [hb]
    exact A p h
  · rcases List.mem_append.1 h with h | h
    · have:=F.tail.at_ p h
      exact⟨this.1,λx L=>by simp only [supd,if_neg (A p h)];exact this.2 x L⟩
    · simp only [List.mem_singleton]at h
      subst h
      refine⟨.inr ⟨rfl,λN I B => ?_⟩,λx L=>by simp only [supd,if_true];exact L⟩
      simp only [Nat.mod_eq_of_lt M]at B
      have h1:=ok.1
      simp only [mF,J,Bool.and_eq_true]at h1
      have h2:=List.all_eq_true.1 h1.1 N I
      simp only [B,Nat.beq_refl]at h2
      cases h2
theorem y8 {o:Oper} {d:Nat} (N:o.dst=some d) (k:Nat) (T:List Nm) (Y:q=none\/Nat.beq all.length (k+(rest.length+1))=true) (hf:∀S tk,AgR H S tk (o::rest)->okQ q all k T true) (R:∀m∈T,m∈H.map (·.1)) (hw:aQ all sl o=some true)
    (W:∀S tk (M:Eff->Prop),uC C (o::rest)->AgR H S tk (o::rest) ->
      (∀A L m,(m=(d,tk)\/m∈T)->((∀x∈A.req,x.1∈T++[m])/\∀x∈A.upd,x.1∈T++[m])->AgR L (fP S A.upd) tk rest->bu (uT q k (T++[m]) true) C all K rest (eF sl o.dst A.val) L->M A)->opD C o sl S tk M) :
    bu q C all K (o::rest) sl H :=
  LV k true Y hw (λS tk M ok J hO hK=>by
    have O:=(qg (ok.2 o (by simp)) N).2
    have I:¬K7 tk (o::rest) (d,tk):=by
      rintro (h|⟨_,h⟩)
      · exact Nat.lt_irrefl _ h
      · have:=h o (by simp)
        simp only [N,Nat.mod_eq_of_lt O,ne_eq,not_true]at this
    refine W S tk M ok J (λA L m hm h1 Z h4=>hK A L (T++[m]) ?_ (λm' B => ?_) h1 (λe=>by cases e) Z h4)
    · rcases hm with rfl | hm
      · exact okQ_add (hf S tk J) hO I
      · exact Pk (λx F=>(List.mem_append.1 F).elim id (λF=>by rw [List.mem_singleton]at F;rw [F];exact hm)) (hf S tk J)
    · have X:∀x∈T,K7 tk rest x:=λx F=>(J.old (R x F)).tail
      rcases List.mem_append.1 B with B|B
      · exact X _ B
      · rw [List.mem_singleton]at B;subst B
        rcases hm with rfl|hm
        · exact ((J.new ok N (.cells 0 [])).at_ ((d,tk),some (.cells 0 [])) (by simp)).1
        · exact X _ hm)
theorem zg {b:Builtin} {args:Array Operand} {o:Array TypeId} {S:Store} {tk:Nat} {B:Eff->Prop} {A:Eff} (h:vQ C.P b o.toList (args.toList.map (ev sl)) S dst tk=some A) (F:B A) :
    opD C ⟨dst,.call ⟨.builtin b,args,o⟩,ty,pos,after,g⟩ sl S tk B:=by
  show (match qO C _ sl S tk with | some A=>B A | none=>False)
  have e:qO C ⟨dst,.call ⟨.builtin b,args,o⟩,ty,pos,after,g⟩ sl S tk=some A:=h
  rw [e];exact F
theorem BQ {x:Operand} {v:V} (hl:EC C.P t (ev sl x)=some v) (B:aQ all sl ⟨dst,.call ⟨.builtin .len,#[x],#[t]⟩,ty,pos,after,g⟩=some true) (h:bu q C all K rest (eF sl dst v) H) :
    bu q C all K (⟨dst,.call ⟨.builtin .len,#[x],#[t]⟩,ty,pos,after,g⟩::rest) sl H :=
  mV B (λS tk F _ o=>zg (A:=⟨[],[],v⟩) (by
    have hm:Ih (ev sl x)=false:=by
      cases hx:ev sl x with
      | map n=>rw [hx]at hl;unfold EC at hl;split at hl <;> first | (cases hl;done) | simp_all
      | _=>rfl
    show (bif Ih (ev sl x)then Av C.P t S (ev sl x)else (EC C.P t (ev sl x)).bind iE)=_
    rw [hm,cond_false,hl];rfl) (o _ rfl rfl rfl)) h
theorem bJ {α:Type} {enc:α->List D} {xs:List α} {x:Operand} {e:TypeId} (o:C.P.underlying t=some (.slice e)) (A:ev sl x=vL enc xs) (B:aQ all sl ⟨dst,.call ⟨.builtin .len,#[x],#[t]⟩,ty,pos,after,g⟩=some true)
    (h:bu q C all K rest (eF sl dst (vI xs.length)) H):bu q C all K (⟨dst,.call ⟨.builtin .len,#[x],#[t]⟩,ty,pos,after,g⟩::rest) sl H :=
  BQ (by rw [A];simp only [EC,o,List.length_map]) B h
theorem yG {s:ByteArray} {x:Operand} (o:C.P.underlying t=some .string) (B:ev sl x=vS s) (A:aQ all sl ⟨dst,.call ⟨.builtin .len,#[x],#[t]⟩,ty,pos,after,g⟩=some true)
    (h:bu q C all K rest (eF sl dst (vI s.size)) H):bu q C all K (⟨dst,.call ⟨.builtin .len,#[x],#[t]⟩,ty,pos,after,g⟩::rest) sl H :=
  BQ (by rw [B];simp only [EC,o]) A h
theorem h_lenw {α:Type} {n:Nm} {sz:Nat} {xs:List α} {x:Operand} {e:TypeId} (o:C.P.underlying t=some (.slice e)) (A:ev sl x=vV n sz xs) (B:aQ all sl ⟨dst,.call ⟨.builtin .len,#[x],#[t]⟩,ty,pos,after,g⟩=some true)
    (h:bu q C all K rest (eF sl dst (vI xs.length)) H):bu q C all K (⟨dst,.call ⟨.builtin .len,#[x],#[t]⟩,ty,pos,after,g⟩::rest) sl H :=
  BQ (by rw [A];simp only [EC,o]) B h
theorem zG {α:Type} {n:Nm} {sz:Nat} {xs:List α} {x:Operand} {e:TypeId} (o:C.P.underlying t=some (.slice e)) (A:ev sl x=gV n sz xs) (B:aQ all sl ⟨dst,.call ⟨.builtin .len,#[x],#[t]⟩,ty,pos,after,g⟩=some true)
    (h:bu q C all K rest (eF sl dst (vI xs.length)) H):bu q C all K (⟨dst,.call ⟨.builtin .len,#[x],#[t]⟩,ty,pos,after,g⟩::rest) sl H :=
  BQ (by rw [A];cases xs <;> simp [EC,o,gV]) B h
theorem vG {b:Builtin} {args:Array Operand} {o:Array TypeId} (v:V) (F:vQ C.P b o.toList (args.toList.map (ev sl)) (λ_=>none) none 0=some ⟨[],[],v⟩) (hb:b = .min\/b = .max) (I:aQ all sl ⟨dst,.call ⟨.builtin b,args,o⟩,ty,pos,after,g⟩=some true)
    (h:bu q C all K rest (eF sl dst v) H):bu q C all K (⟨dst,.call ⟨.builtin b,args,o⟩,ty,pos,after,g⟩::rest) sl H :=
  mV I (λS tk J _ B=>zg (A:=⟨[],[],v⟩) (by rcases hb with rfl | rfl <;> exact F) (B _ rfl rfl rfl)) h
theorem kU {op:Op} {S:Store} {tk:Nat} {B:Eff->Prop} {A:Eff} (hc:∀c,op ≠ .call c) (h:qO C ⟨dst,op,ty,pos,after,g⟩ sl S tk=some A) (F:B A):opD C ⟨dst,op,ty,pos,after,g⟩ sl S tk B:=by
  unfold opD
  split
  · rename_i c o;exact absurd o (hc c)
  · rw [h];exact F
theorem Tx {a b:Option Eff} {A:Eff} (h:a=some A):orE a b=some A:=by rw [h];rfl
theorem dK {α:Type} {enc:α->List D} {xs:List α} {x i:Operand} {k:IntKind} {n:Int} {y:α} {size:Nat} (F:(bO C.P t).bind (szT C.P)=some size) (J:ev sl x=vL enc xs) (hi:ev sl i = .d (.int k n)) (o:idx xs n=some y) (hl:(enc y).length=size)
    (L:aQ all sl ⟨dst,.indexAddr t x i,ty,pos,after,g⟩=some true) (h:bu q C all K rest (eF sl dst (.d (.ptr (enc y)))) H):bu q C all K (⟨dst,.indexAddr t x i,ty,pos,after,g⟩::rest) sl H :=
  mV L (λS tk M _ I=>kU (A:=⟨[],[],.d (.ptr (enc y))⟩) (λc e=>by cases e) (by
    show orE (lT C.P t (ev sl x) (ev sl i)) _=_
    refine Tx ?_
    unfold idx at o
    split at o
    · rename_i B
      rw [J,hi,xx F,decide_eq_true B]
      exact idxB_sl (by rw [List.getElem?_map,o];rfl) hl
    · cases o) (I _ rfl rfl rfl)) h
theorem Bz {x i:Operand} {k:IntKind} {n:Int} {nm:Nm} {j len size:Nat} (B:(bO C.P t).bind (szT C.P)=some size) (I:ev sl x = .vs nm size j len) (hi:ev sl i = .d (.int k n)) (o:0<=n) (h1:n.toNat<len)
    (J:aQ all sl ⟨dst,.indexAddr t x i,ty,pos,after,g⟩=some true) (h:bu q C all K rest (eF sl dst (.ref nm (j+n.toNat) 0)) H):bu q C all K (⟨dst,.indexAddr t x i,ty,pos,after,g⟩::rest) sl H :=
  mV J (λS tk L _ F=>kU (A:=⟨[],[],.ref nm (j+n.toNat) 0⟩) (λc e=>by cases e) (by
    show orE (lT C.P t (ev sl x) (ev sl i)) _=_
    refine Tx ?_
    rw [I,hi,xx B,decide_eq_true o]
    exact idxB_vs h1) (F _ rfl rfl rfl)) h
theorem uJ {x:Operand} {f off s:Nat} {cs:List D} (B:bS C.P t f=some (off,s+1)) (I:ev sl x = .d (.ptr cs)) (v:List D) (J:cs.drop off=v) (o:Nat.ble off cs.length=true)
    (L:aQ all sl ⟨dst,.fieldAddr t x f,ty,pos,after,g⟩=some true) (h:bu q C all K rest (eF sl dst (.d (.ptr v))) H):bu q C all K (⟨dst,.fieldAddr t x f,ty,pos,after,g⟩::rest) sl H :=
  mV L (λS tk M _ F=>kU (A:=⟨[],[],.d (.ptr v)⟩) (λc e=>by cases e) (by
    show kL C.P t (ev sl x) f=_
    rw [I,FC B,o,J];rfl) (F _ rfl rfl rfl)) h
theorem aH {x:Operand} {f off s:Nat} {n:Nm} {i j:Nat} (B:bS C.P t f=some (off,s+1)) (I:ev sl x = .ref n i j) (o:Nat) (hj:j+off=o)
    (J:aQ all sl ⟨dst,.fieldAddr t x f,ty,pos,after,g⟩=some true) (h:bu q C all K rest (eF sl dst (.ref n i o)) H):bu q C all K (⟨dst,.fieldAddr t x f,ty,pos,after,g⟩::rest) sl H :=
  mV J (λS tk L _ F=>kU (A:=⟨[],[],.ref n i o⟩) (λc e=>by cases e) (by
    show kL C.P t (ev sl x) f=_
    rw [I,Hw B,hj]) (F _ rfl rfl rfl)) h
theorem bK {x:Operand} {size:Nat} {agg:Bool} {cs:List D} (hs:szT C.P t=some size) (I:bW C.P t=agg) (o:ev sl x = .d (.ptr cs)) (v:V) (F:rdD agg size cs=some v)
    (J:aQ all sl ⟨dst,.load t x,ty,pos,after,g⟩=some true) (h:bu q C all K rest (eF sl dst v) H):bu q C all K (⟨dst,.load t x,ty,pos,after,g⟩::rest) sl H :=
  mV J (λS tk L _ B=>kU (A:=⟨[],[],v⟩) (λc e=>by cases e) (by
    show vX C.P t S (ev sl x)=_
    rw [o,NR hs I,F];rfl) (B _ rfl rfl rfl)) h
theorem aC {x:Operand} {size:Nat} {agg:Bool} {n:Nm} {i j sz:Nat} {cs:List V} (p k:Nat) (I:q=none\/Nat.beq all.length (p+(rest.length+1))=true) (hf:∀S tk,AgR H S tk (⟨dst,.load t x,ty,pos,after,g⟩::rest)->okQ q all p [n] false) (hs:szT C.P t=some size) (M:bW C.P t=agg) (J:ev sl x = .ref n i j) (B:H[k]? = some (n,some (.cells sz cs))) (v:V) (L:rdV agg size (cs.drop (i*sz+j))=some v)
    (N:aQ all sl ⟨dst,.load t x,ty,pos,after,g⟩=some true) (h:bu (uT q p [n] false) C all K rest (eF sl dst v) H):bu q C all K (⟨dst,.load t x,ty,pos,after,g⟩::rest) sl H :=
  uX p [n] false I hf (Bj B) N (λS tk O ok o F=>kU (A:=⟨[(n,.cells sz cs)],[],v⟩) (λc e=>by cases e) (by
    show vX C.P t S (ev sl x)=_
    rw [J,DR hs M,o.get B]
    simp only [LA,L,Option.map_some]) (F _ H ⟨by simp,by simp⟩ (λ_=>rfl) o.tail h))
theorem F8 {α:Type} {enc:α->List D} {xs:List α} {y:α} {x:Operand} {size:Nat} {agg:Bool} {n:Nm} {i j sz:Nat} (p k:Nat) (J:q=none\/Nat.beq all.length (p+(rest.length+1))=true) (hf:∀S tk,AgR H S tk (⟨dst,.load t x,ty,pos,after,g⟩::rest)->okQ q all p [n] false) (hs:szT C.P t=some size) (N:bW C.P t=agg) (L:ev sl x = .ref n i j) (B:H[k]? = some (n,some (bV sz enc xs))) (F:xs[i]? = some y)
    (v:V) (M:rdD agg size ((enc y).drop j)=some v)
    (O:aQ all sl ⟨dst,.load t x,ty,pos,after,g⟩=some true) (h:bu (uT q p [n] false) C all K rest (eF sl dst v) H):bu q C all K (⟨dst,.load t x,ty,pos,after,g⟩::rest) sl H :=
  uX p [n] false J hf (Bj B) O (λS tk R ok o I=>kU (A:=⟨[(n,bV sz enc xs)],[],v⟩) (λc e=>by cases e) (by
    show vX C.P t S (ev sl x)=_
    rw [L,DR hs N,o.get B]
    simp only [LA,List.getElem?_map,F,Option.map_some,M]) (I _ H ⟨by simp,by simp⟩ (λ_=>rfl) o.tail h))
def stC (size:Nat) (cs:List V) (o:Nat) (x:V):Option (List V):=bif Nat.beq (bB x).length size&&Nat.ble (o+size) cs.length&&(bB x).all kw then some (splice cs (bB x) o)else none
def stD (size:Nat) (cs:List D) (o:Nat) (x:V):Option (List D):=match uH (bB x)with
  | some new=>bif Nat.beq new.length size&&Nat.ble (o+size) cs.length&&(bB x).all kw then some (splice cs new o)else none
  | none=>none
theorem gp {x y:Operand} {size:Nat} {n:Nm} {i j sz:Nat} {cs:List V} (p:Nat) (M:q=none\/Nat.beq all.length (p+(rest.length+1))=true) (hf:∀S tk,AgR H S tk (⟨dst,.store t x y,ty,pos,after,g⟩::rest)->okQ q all p [n] true) (k:Nat) (hs:szT C.P t=some size) (F:ev sl x = .ref n i j) (I:H[k]? = some (n,some (.cells sz cs))) (o:List V) (B:stC size cs (i*sz+j) (ev sl y)=some o)
    (N:aQ all sl ⟨dst,.store t x y,ty,pos,after,g⟩=some true) (h:bu (uT q p [n] true) C all K rest (eF sl dst .none) (H.set k (n,some (.cells sz o)))) (ht:Nat.blt sz 1048576=true:=by rfl):bu q C all K (⟨dst,.store t x y,ty,pos,after,g⟩::rest) sl H :=
  uX p [n] true M hf (Bj I) N (λS tk O ok J L=>kU (A:=⟨[(n,.cells sz cs)],[(n,some (.cells sz o))],.none⟩) (λc e=>by cases e) (by
    show vN C.P t S (ev sl x) (ev sl y)=_
    rw [F,Hy hs,J.get I]
    simp only [stC]at B
    simp only [KP]
    cases hb:(Nat.beq (bB (ev sl y)).length size&&Nat.ble (i*sz+j+size) cs.length&&(bB (ev sl y)).all kw)with
    | true=>simp only [hb,ht,Bool.and_self,cond_true,so_]at B ⊢;rw [B]
    | false=>simp only [hb,cond_false]at B;cases B) (L _ _ ⟨by simp,by simp⟩ (λe=>by cases e) (J.tail.set I (λx F=>F)) h))
theorem QW {α:Type} {enc:α->List D} {xs:List α} {e:α} {x y:Operand} {size:Nat} {n:Nm} {i j sz:Nat} (p:Nat) (M:q=none\/Nat.beq all.length (p+(rest.length+1))=true) (hf:∀S tk,AgR H S tk (⟨dst,.store t x y,ty,pos,after,g⟩::rest)->okQ q all p [n] true) (k:Nat) (hs:szT C.P t=some size) (B:ev sl x = .ref n i j) (F:H[k]? = some (n,some (bV sz enc xs))) (J:xs[i]? = some e) (e':α) (o:stD size (enc e) j (ev sl y)=some (enc e'))
    (N:aQ all sl ⟨dst,.store t x y,ty,pos,after,g⟩=some true) (h:bu (uT q p [n] true) C all K rest (eF sl dst .none) (H.set k (n,some (bV sz enc (xs.set i e'))))):bu q C all K (⟨dst,.store t x y,ty,pos,after,g⟩::rest) sl H :=
  uX p [n] true M hf (Bj F) N (λS tk O ok I L=>kU (A:=⟨[(n,bV sz enc xs)],[(n,some (bV sz enc (xs.set i e')))],.none⟩) (λc e=>by cases e) (by
    show vN C.P t S (ev sl x) (ev sl y)=_
    rw [B,Hy hs,I.get F]
    simp only [stD]at o
    simp only [KP,List.getElem?_map,J,Option.map_some]
    cases hn:uH (bB (ev sl y))with
    | none=>rw [hn]at o;cases o
    | some new =>
      simp only [hn]at o ⊢
      cases hb:(Nat.beq new.length size&&Nat.ble (j+size) (enc e).length&&(bB (ev sl y)).all kw)with
      | true=>simp only [hb,cond_true,so_]at o ⊢;rw [o];simp only [bV,List.map_set]
      | false=>simp only [hb,cond_false]at o;cases o) (L _ _ ⟨by simp,by simp⟩ (λe=>by cases e) (I.tail.set F (λx B=>B)) h))
theorem bZ {e:TypeId} {cs:List V} (p:Nat) (I:q=none\/Nat.beq all.length (p+(rest.length+1))=true) (J:zeroCells C.P e=some cs) (ho:cs.all kw=true) (M:aQ all sl ⟨some d,.alloc e,ty,pos,after,g⟩=some true)
    (h:∀n:Nm,bu (uT q p [n] true) C all K rest (upd sl d (.ref n 0 0)) (H++[(n,some (.cells cs.length cs))])) (hb:KE C.P e=none:=by kernel_rfl) (B:C.vm.contains d=false:=by rfl) (o:Nat.blt cs.length 1048576=true:=by rfl):bu q C all K (⟨some d,.alloc e,ty,pos,after,g⟩::rest) sl H :=
  y8 rfl p [] I (λ_ _ _=>CE) (λm hm=>by cases hm) M (λS tk N ok L F=>kU (A:=⟨[],[((d,tk),some (.cells cs.length cs))],.ref (d,tk) 0 0⟩) (λc e=>by cases e) (by
    show (bif (KE C.P e).isSome then Ar C.P e d tk else bif C.vm.contains d then AO C.P e d tk else BK C.P e d tk)=_
    rw [hb,B]
    simp only [Option.isSome_none,cond_false,BK,J,ho,o,Bool.and_self,cond_true]) (F _ _ _ (.inl rfl) ⟨by simp,by simp⟩ (L.new ok rfl _) (h (d,tk))))
theorem eT {e:TypeId} {x:Operand} (p:Nat) (F:q=none\/Nat.beq all.length (p+(rest.length+1))=true) (cs:List V) (I:bB (ev sl x)=cs) (ho:cs.all kw=true) (L:aQ all sl ⟨some d,.box e x,ty,pos,after,g⟩=some true)
    (h:∀n:Nm,bu (uT q p [n] true) C all K rest (upd sl d (.ref n 0 0)) (H++[(n,some (.cells cs.length cs))])) (o:Nat.blt cs.length 1048576=true:=by rfl):bu q C all K (⟨some d,.box e x,ty,pos,after,g⟩::rest) sl H :=
  y8 rfl p [] F (λ_ _ _=>CE) (λm hm=>by cases hm) L (λS tk M ok J B=>kU (A:=⟨[],[((d,tk),some (.cells cs.length cs))],.ref (d,tk) 0 0⟩) (λc e=>by cases e) (by
    show NH (ev sl x) d tk=_
    simp only [NH,I,ho,o,Bool.and_self,cond_true]) (B _ _ _ (.inl rfl) ⟨by simp,by simp⟩ (J.new ok rfl _) (h (d,tk))))
def co0 (v:V):V:=co (λ_=>none) v
theorem co_0 {S:Store} {v:V} (h:frz v=[]):co S v=co0 v :=
  (KQ (S:=S) (S':=λ_=>none) (v:=v) (λn o=>by rw [h]at o;cases o)).symm
theorem vo {α β:Type} {f:α->List β}:∀{l:List α},l.flatMap f=[]->∀x∈l,f x=[]
  | a::l,h,x,o=>by
    simp only [List.flatMap_cons,List.append_eq_nil_iff]at h
    rcases List.mem_cons.1 o with rfl|o
    · exact h.1
    · exact vo h.2 x o
def Rj (sl:Nat->V) (parts:List (Nat×Operand)):List (Nat×V):=parts.map λp=>(p.1,co0 (ev sl p.2))
theorem Tc {S:Store} {tk len size:Nat} {parts:List (Nat×Operand)} {xs:List (List D)} (J:(bO C.P t).bind (szT C.P)=some size) (I:((bO C.P t).bind (zeroCells C.P)).isSome=true)
    (o:(parts.flatMap λp=>frz (ev sl p.2))=[]) (F:wm size 0 (Rj sl parts)=some xs) (hl:Nat.beq parts.length len=true) (h:Nat.ble (len*size) 16777216=true) :
    JZ C t len (parts.map λp=>(p.1,ev sl p.2)) S d tk=some (bif C.vm.contains d then⟨[],[((d,tk),some (.vec size xs))],.vs (d,tk) size 0 len⟩else⟨[],[],bif Nat.beq len 0 then .nil else .d (.sl xs)⟩):=by
  have h1:((parts.map λp=>(p.1,ev sl p.2)).flatMap λp=>frz p.2)=[]:=by
    rw [List.flatMap_map];exact o
  have h2:((parts.map λp=>(p.1,ev sl p.2)).map λp=>(p.1,co S p.2))=Rj sl parts:=by
    rw [List.map_map]
    exact List.map_congr_left (λp A=>by simp only [Function.comp];rw [co_0 (vo o p A)])
  have B:Nat.beq ((Rj sl parts).length) len=true:=by simp only [Rj,List.length_map];exact hl
  simp only [JZ,h1,List.all_nil,cond_true,freezeAll,iB,fP,h2,tO,J,F,B,h,I,Bool.and_self]
  cases C.vm.contains d <;> cases Nat.beq len 0 <;> simp [iE,iC]
theorem dW {len size:Nat} {parts:List (Nat×Operand)} (xs:List (List D)) (I:(bO C.P t).bind (szT C.P)=some size) (M:((bO C.P t).bind (zeroCells C.P)).isSome=true)
    (F:(parts.flatMap λp=>frz (ev sl p.2))=[]) (L:wm size 0 (Rj sl parts)=some xs) (hl:Nat.beq parts.length len=true) (B:Nat.ble (len*size) 16777216=true) (o:(C.vm.contains d||Nat.beq len 0)=false)
    (N:aQ all sl ⟨some d,.buildSlice t len parts.toArray,ty,pos,after,g⟩=some true) (h:bu q C all K rest (upd sl d (.d (.sl xs))) H):bu q C all K (⟨some d,.buildSlice t len parts.toArray,ty,pos,after,g⟩::rest) sl H :=
  mV N (λS tk O _ J=>kU (A:=⟨[],[],.d (.sl xs)⟩) (λc e=>by cases e) (by
    show JZ C t len (parts.toArray.toList.map λp=>(p.1,ev sl p.2)) S d tk=_
    rw [List.toList_toArray,Tc I M F L hl B]
    simp only [Bool.or_eq_false_iff]at o
    rw [o.1,o.2];rfl) (J _ rfl rfl rfl)) h
theorem Si {size:Nat} (J:(bO C.P t).bind (szT C.P)=some size) (F:((bO C.P t).bind (zeroCells C.P)).isSome=true) (B:C.vm.contains d=false)
    (I:aQ all sl ⟨some d,.buildSlice t 0 #[],ty,pos,after,g⟩=some true) (h:bu q C all K rest (upd sl d .nil) H):bu q C all K (⟨some d,.buildSlice t 0 #[],ty,pos,after,g⟩::rest) sl H :=
  mV I (λS tk L _ o=>kU (A:=⟨[],[],.nil⟩) (λc e=>by cases e) (by
    show JZ C t 0 (([]:List (Nat×Operand)).map λp=>(p.1,ev sl p.2)) S d tk=_
    rw [Tc (parts:=[]) J F rfl rfl rfl (by rw [Nat.zero_mul];rfl),B];rfl) (o _ rfl rfl rfl)) h
end
end Go.Eng

/-
  THE ENGINE: append, calls, a function's end.
-/
namespace Go.Eng
set_option linter.unusedSectionVars false
variable [DM]
set_option linter.unusedVariables false
set_option linter.unusedSimpArgs false
section
variable {C:Cfg} {sl:Nat->V} {H:Hp} {q:Qm} {all rest:List Oper} {K:(Nat->V)->Hp->Prop}
variable {dst:Option Tmp} {d:Nat} {t ty:TypeId} {pos:String} {after:Array Edge} {g:Option (Nat×Bool)}
theorem K3 {S:Store} {tk:Nat} {l:List Oper} (o:AgR H S tk l) {i:Nat} {n:Nm} {b b':Option Box} (h:H[i]? = some (n,b)) (hb:∀x,b'=some x->S n=some x):AgR (H.set i (n,b')) S tk l:=by
 have hi:i<H.length:=(List.getElem?_eq_some_iff.1 h).1
 have A:H[i]=(n,b):=(List.getElem?_eq_some_iff.1 h).2
 have hm:(H.set i (n,b')).map (·.1)=H.map (·.1):=by
  apply List.ext_getElem
  ·simp
  ·intro j h1 h2
   simp only [List.getElem_map,List.getElem_set]
   split
   ·rename_i e;subst e;rw [A]
   ·rfl
 refine⟨o.pos,by rw [hm];exact o.nd,λp B => ?_⟩
 obtain ⟨j,hj,rfl⟩:=List.getElem_of_mem B
 simp only [List.length_set]at hj
 simp only [List.getElem_set]
 split
 ·rename_i e;subst e
  have:=o.at_ (n,b) (by rw [<- A];exact List.getElem_mem hi)
  exact⟨this.1,hb⟩
 ·exact o.at_ H[j] (List.getElem_mem hj)
theorem AgR.swap {S:Store} {tk:Nat} {o:Oper} (ok:uC C (o::rest)) (F:AgR H S tk (o::rest)) (L:o.dst=some d) {i:Nat} {n:Nm} {R:Option Box} (h:H[i]? = some (n,R)) (b:Option Box) (S':Store)
  (hS:∀m,m≠n->m≠(d,tk)->S' m=S m) (hb:∀x,b=some x->S' (d,tk)=some x):AgR (H.set i ((d,tk),b)) S' tk rest:=by
 have A:=new_ne ok F L 0
 simp only [Nat.mul_zero,Nat.add_zero]at A
 have O:=(qg (ok.2 o (by simp)) L).2
 have hi:i<H.length:=(List.getElem?_eq_some_iff.1 h).1
 have W:H[i]=(n,R):=(List.getElem?_eq_some_iff.1 h).2
 have B:∀j (hj:j<H.length),j≠i->H[j].1≠n:=λj hj hji e=>hji (mh F.nd j i (by simpa using hj) (by simpa using hi) (by simp [W,e]))
 have hm:(H.set i ((d,tk),b)).map (·.1)=(H.map (·.1)).set i (d,tk):=by rw [List.map_set]
 refine⟨F.pos,?_,λp X => ?_⟩
 ·rw [hm]
  refine List.pairwise_iff_getElem.2 (λa c M hc J => ?_)
  simp only [List.length_set,List.length_map]at M hc
  have h1:=(List.pairwise_iff_getElem.1 F.nd) a c (by simpa using M) (by simpa using hc) J
  simp only [List.getElem_map]at h1
  simp only [List.getElem_set,List.getElem_map]
  split
  ·rw [if_neg (by omega)]
   exact (A _ (List.getElem_mem hc)).symm
  ·split
   ·exact A _ (List.getElem_mem M)
   ·exact h1
 ·obtain ⟨j,hj,rfl⟩:=List.getElem_of_mem X
  simp only [List.length_set]at hj
  simp only [List.getElem_set]
  split
  ·refine⟨.inr ⟨rfl,λZ N I => ?_⟩,hb⟩
   simp only [Nat.mod_eq_of_lt O]at I
   have h1:=ok.1
   simp only [mF,L,Bool.and_eq_true]at h1
   have h2:=List.all_eq_true.1 h1.1 Z N
   simp only [I,Nat.beq_refl]at h2
   cases h2
  ·rename_i e
   have h1:=F.tail.at_ H[j] (List.getElem_mem hj)
   exact⟨h1.1,λx Y=>by rw [hS _ (B j hj (Ne.symm e)) (A _ (List.getElem_mem hj))];exact h1.2 x Y⟩
def mK {α:Type} (xs ys:List α):Option (List α):=if xs.length+ys.length<=1000000000 then some (xs++ys)else none
def pJ (x y:ByteArray):Option ByteArray:=if ((x.size+y.size:Nat):Int)>IntKind.i64.max then none else some (x++y)
theorem z8 {P:Program} {t e:TypeId} (h:bO P t=some e):pM P t=false:=by
 have:=lS h
 unfold pM;rw [this]
theorem De {α:Type} {enc:α->List D} {sz:Nat} (h:∀y,(enc y).length=sz) (ys:List α):(ys.map enc).all (λx=>Nat.beq x.length sz)=true:=by
 rw [List.all_eq_true]
 intro x o
 obtain ⟨y,_,rfl⟩:=List.mem_map.1 o
 rw [h y];exact Nat.beq_refl sz
section app
variable {α:Type} {enc:α->List D} {xs ys zs:List α} {x y:Operand} {t' e e':TypeId} {sz bytes i:Nat} {n:Nm} {z:List V}
theorem h_appgX (p:Nat) (hpp:q=none\/Nat.beq all.length (p+(rest.length+1))=true) (hf:∀S tk,AgR H S tk (⟨some d,.call ⟨.builtin .append,#[x,y],#[t,t']⟩,ty,pos,after,g⟩::rest)->okQ q all p [n] true) (Z:bO C.P t=some e) (I:Ou C.P t'=some ()) (hni:pM C.P t'=false) (hs:szT C.P e=some sz) (hz:zeroCells C.P e=some z) (hzl:z.length=sz) (hp:0<sz) (hby:iw C.P e=bytes) (hbb:bytes<=100000)
  (Y:∀y,(enc y).length=sz) (o:ev sl x=gV n sz xs) (R:H[i]? = some (n,gB sz enc xs)) (hy:∀S,mX S sz (ev sl y)=some (ys.map enc,[])) (M:mK xs ys=some zs)
  (hw:aQ all sl ⟨some d,.call ⟨.builtin .append,#[x,y],#[t,t']⟩,ty,pos,after,g⟩=some true)
  (h:∀n':Nm,bu (uT q p [n,n'] true) C all K rest (upd sl d (gV n' sz zs)) (H.set i (n',gB sz enc zs))):bu q C all K (⟨some d,.call ⟨.builtin .append,#[x,y],#[t,t']⟩,ty,pos,after,g⟩::rest) sl H:=by
 unfold mK at M
 split at M
 case isFalse=>cases M
 rename_i N
 simp only [so_]at M
 subst M
 refine y8 rfl p [n] hpp hf (Bj R) hw (λS tk K' ok X W => ?_)
 have hall:=De (sz:=sz) Y ys
 have J:z.length=sz/\0<sz:=⟨hzl,hp⟩
 have L:∀m,m<=1000000000->(2*m+192)*iw C.P e<=2 ^ 48/\m<=2 ^ 48:=λm hm=>by
  rw [hby]
  have:=Nat.mul_le_mul (show 2*m+192<=2000000192 by omega) hbb
  exact⟨by omega,by omega⟩
 have run:∀{A:Eff},lW C.P t t' S (ev sl x) (ev sl y) d tk=some A->K' A->opD C ⟨some d,.call ⟨.builtin .append,#[x,y],#[t,t']⟩,ty,pos,after,g⟩ sl S tk K':=λM W=>zg (by show (bif pM C.P t' then _ else _)=_;rw [hni,cond_false];exact M) W
 cases xs with
 | nil =>
  have B:ev sl x = .nil:=o
  cases ys with
  | nil =>
   refine run (A:=⟨[],[],.nil⟩) ?_ (W _ (H.set i (n,gB sz enc ([]:List α))) n (.inr (by simp)) ⟨by simp,by simp⟩ (by
    have:=K3 X R (b':=gB sz enc ([]:List α)) (λx o=>by cases o)
    exact this.tail) (h n))
   rw [B]
   simp only [lW,Z,I,hs,hz,if_pos J,hy,List.map_nil,List.map_cons,if_true]
   rw [if_pos (L _ (by simp))]
   try rfl
  | cons O ys =>
   refine run (A:=⟨[],[((d,tk),some (.vec sz ((O::ys).map enc)))],.vs (d,tk) sz 0 (O::ys).length⟩) ?_ (W _ (H.set i ((d,tk),gB sz enc (O::ys))) (d,tk) (.inl rfl) ⟨by simp,by simp⟩ ?_ (h (d,tk)))
   ·rw [B]
    simp only [lW,Z,I,hs,hz,if_pos J,hy,List.map_nil,List.map_cons,if_true]
    rw [if_pos (L _ (by simpa using N))]
    simp
   ·exact X.swap ok rfl R _ _ (λm h1 h2=>by simp [fP,supd,h2]) (λx o=>by simp only [fP,supd,if_true];exact o)
 | cons F xs =>
  have B:ev sl x = .vs n sz 0 (F::xs).length:=o
  have hS:S n=some (.vec sz ((F::xs).map enc)):=X.get R
  cases ys with
  | nil =>
   refine run (A:=⟨[(n,.vec sz ((F::xs).map enc))],[],.vs n sz 0 (F::xs).length⟩) ?_ (W _ (H.set i (n,gB sz enc ((F::xs)++[]))) n (.inr (by simp)) ⟨by simp,by simp⟩ (by
    have:=K3 X R (b':=gB sz enc ((F::xs)++[])) (λx o=>by simp only [List.append_nil]at o;rw [hS];exact o)
    exact this.tail) (by have:=h n;rw [List.append_nil]at this;rw [List.append_nil];exact this))
   rw [B]
   simp only [lW,Z,I,hs,hz,if_pos J,hy,List.map_nil,List.map_cons,if_true,hS]
   rw [if_pos ⟨trivial,by simp,L _ (by simpa using N)⟩]
   try rfl
  | cons O ys =>
   refine run (A:=⟨[(n,.vec sz ((F::xs).map enc))],[(n,none),((d,tk),some (.vec sz ((F::xs++(O::ys)).map enc)))],.vs (d,tk) sz 0 (F::xs++(O::ys)).length⟩) ?_ (W _ (H.set i ((d,tk),gB sz enc (F::xs++(O::ys)))) (d,tk) (.inl rfl) ⟨by simp,by simp⟩ ?_ (h (d,tk)))
   ·rw [B]
    simp only [lW,Z,I,hs,hz,if_pos J,hy,List.map_nil,List.map_cons,if_true,hS]
    rw [if_pos ⟨trivial,by simp,L _ (by simpa using N)⟩]
    simp
    try omega
   ·exact X.swap ok rfl R _ _ (λm h1 h2=>by simp [fP,supd,h2,h1]) (λx o=>by simp only [fP,supd,if_true];exact o)
theorem lh (p:Nat) (J:q=none\/Nat.beq all.length (p+(rest.length+1))=true) (hf:∀S tk,AgR H S tk (⟨some d,.call ⟨.builtin .append,#[x,y],#[t,t']⟩,ty,pos,after,g⟩::rest)->okQ q all p [n] true) (N:bO C.P t=some e) (A:bO C.P t'=some e') (hs:szT C.P e=some sz) (W:zeroCells C.P e=some z) (B:z.length=sz) (O:0<sz) (F:iw C.P e=bytes) (L:bytes<=100000)
  (o:∀y,(enc y).length=sz) (R:ev sl x=gV n sz xs) (Y:H[i]? = some (n,gB sz enc xs)) (M:ev sl y=vL enc ys) (X:mK xs ys=some zs)
  (Z:aQ all sl ⟨some d,.call ⟨.builtin .append,#[x,y],#[t,t']⟩,ty,pos,after,g⟩=some true)
  (h:∀I:Nm,bu (uT q p [n,I] true) C all K rest (upd sl d (gV I sz zs)) (H.set i (I,gB sz enc zs))):bu q C all K (⟨some d,.call ⟨.builtin .append,#[x,y],#[t,t']⟩,ty,pos,after,g⟩::rest) sl H :=
 h_appgX p J hf N (yf A) (z8 A) hs W B O F L o R Y (λS=>by rw [M];simp only [mX,q9,De (sz:=sz) o ys,if_true]) X Z h
theorem h_appv (p:Nat) (W:q=none\/Nat.beq all.length (p+(rest.length+1))=true) (hf:∀S tk,AgR H S tk (⟨some d,.call ⟨.builtin .append,#[x,y],#[t,t']⟩,ty,pos,after,g⟩::rest)->okQ q all p [n] true) (he:bO C.P t=some e) (I:bO C.P t'=some e') (hs:szT C.P e=some sz) (hz:zeroCells C.P e=some z) (Z:z.length=sz) (hp:0<sz) (hby:iw C.P e=bytes) (X:bytes<=100000)
  (M:∀y,(enc y).length=sz) (B:ev sl x=vV n sz xs) (O:H[i]? = some (n,some (bV sz enc xs))) (hy:ev sl y=vL enc ys) (F:mK xs ys=some zs)
  (hw:aQ all sl ⟨some d,.call ⟨.builtin .append,#[x,y],#[t,t']⟩,ty,pos,after,g⟩=some true)
  (h:∀n':Nm,bu (uT q p [n,n'] true) C all K rest (upd sl d (vV n' sz zs)) (H.set i (n',some (bV sz enc zs)))):bu q C all K (⟨some d,.call ⟨.builtin .append,#[x,y],#[t,t']⟩,ty,pos,after,g⟩::rest) sl H:=by
 unfold mK at F
 split at F
 case isFalse=>cases F
 rename_i N
 simp only [so_]at F
 subst F
 refine y8 rfl p [n] W hf (Bj O) hw (λS tk K' ok Y R => ?_)
 have o:=De (sz:=sz) M ys
 have J:z.length=sz/\0<sz:=⟨Z,hp⟩
 have L:∀m,m<=1000000000->(2*m+192)*iw C.P e<=2 ^ 48/\m<=2 ^ 48:=λm hm=>by
  rw [hby]
  have:=Nat.mul_le_mul (show 2*m+192<=2000000192 by omega) X
  exact⟨by omega,by omega⟩
 have run:∀{A:Eff},lW C.P t t' S (ev sl x) (ev sl y) d tk=some A->K' A->opD C ⟨some d,.call ⟨.builtin .append,#[x,y],#[t,t']⟩,ty,pos,after,g⟩ sl S tk K':=λF R=>zg (by show (bif pM C.P t' then _ else _)=_;rw [z8 I,cond_false];exact F) R
 have hS:S n=some (.vec sz (xs.map enc)):=Y.get O
 cases ys with
 | nil =>
  refine run (A:=⟨[(n,.vec sz (xs.map enc))],[],.vs n sz 0 xs.length⟩) ?_ (R _ (H.set i (n,some (bV sz enc (xs++[])))) n (.inr (by simp)) ⟨by simp,by simp⟩ (by
   have:=K3 Y O (b':=some (bV sz enc (xs++[]))) (λx B=>by simp only [List.append_nil]at B;rw [hS];exact B)
   exact this.tail) (by have:=h n;rw [List.append_nil]at this;rw [List.append_nil];exact this))
  rw [B,hy]
  simp only [vV,lW,he,yf I,hs,hz,if_pos J,mX,q9,o,if_true,hS]
  rw [if_pos ⟨trivial,by simp,L _ (by simpa using N)⟩]
  rfl
 | cons y0 ys =>
  refine run (A:=⟨[(n,.vec sz (xs.map enc))],[(n,none),((d,tk),some (.vec sz ((xs++(y0::ys)).map enc)))],.vs (d,tk) sz 0 (xs++(y0::ys)).length⟩) ?_ (R _ (H.set i ((d,tk),some (bV sz enc (xs++(y0::ys))))) (d,tk) (.inl rfl) ⟨by simp,by simp⟩ ?_ (h (d,tk)))
  ·rw [B,hy]
   simp only [vV,lW,he,yf I,hs,hz,if_pos J,mX,q9,o,if_true,hS]
   rw [if_pos ⟨trivial,by simp,L _ (by simpa using N)⟩]
   simp
  ·exact Y.swap ok rfl O _ _ (λm h1 h2=>by simp [fP,supd,h2,h1]) (λx B=>by simp only [fP,supd,if_true];exact B)
end app
end
end Go.Eng

/-
  THE ENGINE: calls, a function's end, and what may be done between operations.
-/
namespace Go.Eng
set_option linter.unusedSectionVars false
variable [DM]
set_option linter.unusedVariables false
set_option linter.unusedSimpArgs false
section
variable {C:Cfg} {sl:Nat->V} {H:Hp} {q:Qm} {all rest:List Oper} {K:(Nat->V)->Hp->Prop}
variable {dst:Option Tmp} {d:Nat} {t ty:TypeId} {pos:String} {after:Array Edge} {g:Option (Nat×Bool)}
theorem Gm {S:Store}:∀{vs:List V},vs.flatMap frz=[]->vs.map (co S)=vs.map co0
  | vs,h=>List.map_congr_left (λv o=>co_0 (vo h v o))
theorem wu {f:Operand} {args:List Operand} {A:Array TypeId} {fn:FuncId} {caps:List V} {S:Store} {tk:Nat} {o:Eff->Prop} (hf:ev sl f = .fn fn caps) (h:JK C (.fn fn caps) (args.map (ev sl)) dst S tk o) :
    opD C ⟨dst,.call ⟨.value f,args.toArray,A⟩,ty,pos,after,g⟩ sl S tk o:=by
  show JK C (ev sl f) (args.toArray.toList.map (ev sl)) dst S tk o
  rw [hf,List.toList_toArray];exact h
theorem aD {f:Operand} {args:List Operand} {F:Array TypeId} {fn:FuncId} {caps o:List V} {r:V} (hc:FnM C.P fn o [] r []) (hf:ev sl f = .fn fn caps) (hb:aI C.P fn=true)
    (A:(args.map (ev sl)++caps).flatMap frz=[]) (N:(args.map (ev sl)++caps).map co0=o) (B:okL 0 o=true) (J:okV 0 r=true)
    (O:aQ all sl ⟨dst,.call ⟨.value f,args.toArray,F⟩,ty,pos,after,g⟩=some true) (h:bu q C all K rest (eF sl dst r) H):bu q C all K (⟨dst,.call ⟨.value f,args.toArray,F⟩,ty,pos,after,g⟩::rest) sl H :=
  mV O (λS tk M _ L=>wu hf (by
    refine .inl ⟨hb,⟨[],[],o,[],r,[],false⟩,?_,λ_=>rfl,?_⟩
    · exact { does := hc
              args:=ArgsOK.of_map <| by
                show (args.map (ev sl)++caps).map (co S)=renL [] o
                rw [Gm A,N,Ky B]
              okA:=B,nodup:=List.nodup_nil,ins:=trivial,len:=Nat.le_refl _,okR:=J,okO:=rfl,mutN:=rfl
              roOK:=(λe=>by cases e),have_:=(λn A=>nomatch A),cov:=(λn I=>by rw [A]at I;cases I),dis:=(λn A=>nomatch A) }
    · have:ren [] r=r:=wB J
      show M ⟨_,_,ren [] r⟩
      rw [this]
      exact L _ rfl rfl rfl)) h
theorem h_ext {f:Operand} {args:List Operand} {A:Array TypeId} {fn:FuncId} {o:List V} {r:D} (hc:ExtM C.P fn o r) (hf:ev sl f = .fn fn []) (hb:aI C.P fn=false)
    (F:args.map (ev sl)=o)
    (I:aQ all sl ⟨dst,.call ⟨.value f,args.toArray,A⟩,ty,pos,after,g⟩=some true) (h:bu q C all K rest (eF sl dst (.d r)) H):bu q C all K (⟨dst,.call ⟨.value f,args.toArray,A⟩,ty,pos,after,g⟩::rest) sl H :=
  mV I (λS tk J _ B=>wu hf (by
    refine .inr ⟨hb,r,?_,B _ rfl rfl rfl⟩
    rw [F,List.append_nil];exact hc)) h
def pF (H:Hp):List Nat->Option (List (Nm×Box))
  | []=>some []
  | i::is=>match H[i]?,pF H is with
    | some (n,some b),some l=>some ((n,b)::l)
    | _,_=>none
def setH (H:Hp):List (Nat×Nm×Option Box)->Hp
  | []=>H
  | (i,n,b)::l=>setH (H.set i (n,b)) l
theorem pq:∀{is:List Nat} {l:List (Nm×Box)},pF H is=some l->l.length=is.length/\∀j (h1:j<is.length) (h2:j<l.length),H[is[j]]? = some (l[j].1,some l[j].2)
  | [],l,h=>by simp only [pF,so_]at h;subst h;exact⟨rfl,λj h1=>absurd h1 (Nat.not_lt_zero _)⟩
  | i::is,l,h=>by
    simp only [pF]at h
    split at h
    · rename_i n b I h1 h2
      simp only [so_]at h
      subst h
      obtain ⟨B,F⟩:=pq h2
      refine⟨by simp [B],λj o A => ?_⟩
      cases j with
      | zero=>exact h1
      | succ j=>exact F j (by simpa using o) (by simpa using A)
    · cases h
theorem yg {S:Store} {ρ:List Nm}:∀{o:List Nm} {bs:List Box},o.length=bs.length->(∀j (h1:j<o.length) (h2:j<bs.length),bs[j].ok ρ.length=true/\S o[j]=some (bs[j].ren ρ))->insOK S ρ o bs
  | [],[],_,_=>trivial
  | n::o,b::bs,hl,h=>⟨h 0 (by simp) (by simp),yg (by simpa using hl) (λj h1 h2=>h (j+1) (by simpa using h1) (by simpa using h2))⟩
  | [],_::_,hl,_=>by simp at hl
  | _::_,[],hl,_=>by simp at hl
theorem yx {S:Store} {tk:Nat} {l:List Oper} (M:AgR H S tk l) {is:List Nat} (hi:is.Nodup) {l:List (Nm×Box)} (h:pF H is=some l):(l.map (·.1)).Nodup:=by
  obtain ⟨h1,h2⟩:=pq h
  refine List.pairwise_iff_getElem.2 (λa c F hc J => ?_)
  simp only [List.length_map]at F hc
  simp only [List.getElem_map]
  intro e
  have I:=h2 a (by omega) F
  have B:=h2 c (by omega) hc
  have o:=(List.getElem?_eq_some_iff.1 I).1
  have A:=(List.getElem?_eq_some_iff.1 B).1
  have L:=mh M.nd is[a] is[c] (by simpa using o) (by simpa using A) (by
    simp only [List.getElem_map]
    rw [(List.getElem?_eq_some_iff.1 I).2,(List.getElem?_eq_some_iff.1 B).2];exact e)
  have:=mh hi a c (by omega) (by omega) L
  omega
def outs (ν:List Nm):List Nat->List Nm->List (Option Box)->List (Nat×Nm×Option Box)
  | i::is,n::h,b::bs=>(i,n,b.map (·.ren ν))::outs ν is h bs
  | _,_,_=>[]
def news (ν:List Nm):List Nm->List (Option Box)->Hp
  | n::h,b::bs=>(n,b.map (·.ren ν))::news ν h bs
  | _,_=>[]
theorem SE (a b:List (Nat×Nm×Option Box)):∀H:Hp,setH H (a++b)=setH (setH H a) b:=by
  induction a with
  | nil=>intro H;rfl
  | cons x a h=>intro H;obtain ⟨i,n,o⟩:=x;exact h _
theorem setH_at {l:List (Nat×Nm×Option Box)}:∀{H:Hp},(setH H l).length=H.length:=by
  induction l with
  | nil=>intro H;rfl
  | cons x l h=>intro H;obtain ⟨i,n,b⟩:=x;simp only [setH];rw [h];simp
theorem C9 {tk:Nat} {L:List Oper} {ν:List Nm}:∀{is:List Nat} {o:List Nm} {bs:List (Option Box)} {H:Hp} {S:Store} (A:AgR H S tk L) (hi:is.Nodup) (J:o.Nodup)
    (h:∀j (h1:j<is.length) (h2:j<o.length),∃b,H[is[j]]? = some (o[j],b)),AgR (setH H (outs ν is o bs)) (fP S (fq ν (o.take is.length) bs)) tk L
  | [],o,bs,H,S,A,_,_,_=>by simp only [outs,setH,List.length_nil,List.take_zero,fq,fP];exact A
  | i::is,[],bs,H,S,A,_,_,_=>by simp only [outs,setH,List.take_nil,fq,fP];exact A
  | i::is,n::o,[],H,S,A,_,_,_=>by simp only [outs,setH,List.length_cons,List.take_succ_cons,fq,fP];exact A
  | i::is,n::o,b::bs,H,S,A,hi,J,h=>by
    simp only [outs,setH,List.length_cons,List.take_succ_cons,fq,fP]
    obtain ⟨N,B⟩:=h 0 (by simp) (by simp)
    have B:H[i]? = some (n,N):=B
    refine C9 (A.set B (b:=b.map (Box.ren ν)) (b':=b.map (Box.ren ν)) (λx M=>M)) (List.nodup_cons.1 hi).2 (List.nodup_cons.1 J).2 (λj h1 h2 => ?_)
    obtain ⟨O,I⟩:=h (j+1) (by simpa using h1) (by simpa using h2)
    refine⟨O,?_⟩
    have F:i≠is[j]:=λe=>(List.nodup_cons.1 hi).1 (e ▸ List.getElem_mem _)
    rw [List.getElem?_set_ne F]
    exact I
theorem AgR.news {tk:Nat} {o:Oper} (ok:uC C (o::rest)) (L:o.dst=some d) {ν:List Nm}:∀(m:Nat) {bs:List (Option Box)} {H:Hp} {S:Store} (k:Nat),
    ((H.map (·.1)).Nodup/\0<tk)->(∀p∈H,((p.1.2<tk\/p.1.2=tk/\(∀O∈o::rest,O.dst≠some (p.1.1 % 100000)))\/∃j,j<k/\p.1=(d+100000*j,tk))/\∀b,p.2=some b->S p.1=some b) ->
    AgR (H++Eng.news ν ((List.range' k m).map λj=>(d+100000*j,tk)) bs) (fP S (fq ν ((List.range' k m).map λj=>(d+100000*j,tk)) bs)) tk rest
  | 0,bs,H,S,k,B,F=>by
    simp only [List.range'_zero,List.map_nil,Eng.news,List.append_nil,fq,fP]
    have J:=(qg (ok.2 o (by simp)) L).2
    refine⟨B.2,B.1,λp A=>⟨?_,(F p A).2⟩⟩
    rcases (F p A).1 with (h|⟨h1,h2⟩) | ⟨j,_,h⟩
    · exact .inl h
    · exact .inr ⟨h1,λO I=>h2 O (by simp [I])⟩
    · refine .inr ⟨by rw [h],λO I M => ?_⟩
      have W:(d+100000*j) % 100000=d:=(Nat.add_mul_mod_self_left d 100000 j).trans (Nat.mod_eq_of_lt J)
      rw [h,W]at M
      have h1:=ok.1
      simp only [mF,L,Bool.and_eq_true]at h1
      have h2:=List.all_eq_true.1 h1.1 O I
      simp only [M,Nat.beq_refl]at h2
      cases h2
  | m+1,[],H,S,k,B,F=>by
    have:=AgR.news (tk:=tk) ok L (S:=S) (ν:=ν) 0 (bs:=[]) k B F
    simpa [List.range'_succ,Eng.news,fq,fP]using this
  | m+1,b::bs,H,S,k,B,F=>by
    have J:=(qg (ok.2 o (by simp)) L).2
    simp only [List.range'_succ,List.map_cons,Eng.news,fq,fP]
    have N:∀p∈H,p.1≠(d+100000*k,tk):=λp A e=>by
      rcases (F p A).1 with (h1|⟨_,h1⟩) | ⟨j,hj,h1⟩
      · rw [e]at h1;exact Nat.lt_irrefl _ h1
      · have:=h1 o (by simp)
        have W:(d+100000*k) % 100000=d:=(Nat.add_mul_mod_self_left d 100000 k).trans (Nat.mod_eq_of_lt J)
        rw [e,L,W]at this
        exact this rfl
      · rw [e]at h1
        simp only [Prod.mk.injEq,and_true]at h1
        omega
    have:=AgR.news (tk:=tk) ok L (ν:=ν) m (bs:=bs) (H:=H++[((d+100000*k,tk),b.map (·.ren ν))]) (S:=supd S (d+100000*k,tk) (b.map (·.ren ν))) (k+1) ?_ ?_
    · simpa only [List.append_assoc,List.cons_append,List.nil_append]using this
    · refine⟨?_,B.2⟩
      rw [List.map_append,List.nodup_append]
      refine⟨B.1,by simp,λa X c hc => ?_⟩
      simp only [List.map_cons,List.map_nil,List.mem_singleton]at hc
      obtain ⟨p,A,rfl⟩:=List.mem_map.1 X
      rw [hc];exact N p A
    · intro p A
      rcases List.mem_append.1 A with A|A
      · refine⟨?_,λx R=>by simp only [supd,if_neg (N p A)];exact (F p A).2 x R⟩
        rcases (F p A).1 with h|⟨j,hj,h⟩
        · exact .inl h
        · exact .inr ⟨j,by omega,h⟩
      · simp only [List.mem_singleton]at A
        subst A
        exact⟨.inr ⟨k,by omega,rfl⟩,λx R=>by simp only [supd,if_true];exact R⟩
theorem JC {β:Type} (f:Nat->β) (m:Nat):(List.range m).map f=(List.range' 0 m).map f:=by rw [List.range_eq_range']
theorem Ck (ν:List Nm):∀(a b:List Nm) (bs:List (Option Box)),fq ν (a++b) bs=fq ν a bs++fq ν b (bs.drop a.length)
  | [],b,bs=>by simp [fq]
  | x::a,b,[]=>by cases b <;> simp [fq]
  | x::a,b,y::bs=>by simp only [List.cons_append,fq,List.length_cons,List.drop_succ_cons];rw [Ck ν a b bs]
theorem Ho {f:Operand} {args:List Operand} {M:Array TypeId} {fn:FuncId} {caps o:List V} {r:V} {Sin:List Box} {Sout:List (Option Box)} (is:List Nat) (m:Nat) {l:List (Nm×Box)} (hc:FnM C.P fn o Sin r Sout)
    (hf:ev sl f = .fn fn caps) (hb:aI C.P fn=true) (hl:pF H is=some l) (hS:Sin.map (λb=>b.ren (l.map (·.1)))=l.map (·.2)) (J:Sin.all (λb=>b.ok is.length)=true)
    (I:((args.map (ev sl)++caps).flatMap frz).all (λn=>false)=true) (ha:(args.map (ev sl)++caps).map co0=renL (l.map (·.1)) o) (Y:okL is.length o=true) (hr:okV Sout.length r=true)
    (L:Sout.length=is.length+m) (hi:is.Nodup) (hO:okOut Sout.length Sout=true) (Z:mutOut (Sout.drop is.length)=true)
    (hw:aQ all sl ⟨some d,.call ⟨.value f,args.toArray,M⟩,ty,pos,after,g⟩=some true)
    (h:∀ν:Nat->Nm,bu none C all K rest (upd sl d (ren (l.map (·.1)++(List.range m).map ν) r))
      (setH H (outs (l.map (·.1)++(List.range m).map ν) is (l.map (·.1)) Sout)++news (l.map (·.1)++(List.range m).map ν) ((List.range m).map ν) (Sout.drop is.length))) :
    bu none C all K (⟨some d,.call ⟨.value f,args.toArray,M⟩,ty,pos,after,g⟩::rest) sl H:=by
  have O:(args.map (ev sl)++caps).flatMap frz=[]:=by
    cases hx:(args.map (ev sl)++caps).flatMap frz with
    | nil=>rfl
    | cons a b=>rw [hx]at I;simp at I
  obtain ⟨B,N⟩:=pq hl
  have F:Sin.length=l.length:=by have:=congrArg List.length hS;simpa using this
  refine Om hw (λS tk K' ok ag hk=>wu hf ?_)
  have h:=h (λj=>(d+100000*j,tk))
  have R:=yx ag hi hl
  refine .inl ⟨hb,⟨[],l.map (·.1),o,Sin,r,Sout,false⟩,?_,(λe=>by cases e),?_⟩
  · exact { does := hc
            args:=ArgsOK.of_map <| by
              show (args.map (ev sl)++caps).map (co S)=_
              rw [Gm O,ha]
            okA:=by simp only [List.length_map,B];exact Y
            nodup:=R
            ins:=by
              refine yg (by simp [F]) (λj h1 h2=>⟨?_,?_⟩)
              · simp only [List.length_map,B]
                exact List.all_eq_true.1 J _ (List.getElem_mem h2)
              · simp only [List.length_map]at h1
                have e:=N j (by omega) h1
                have W:l[j].2=Sin[j].ren (l.map (·.1)):=by
                  have:=congrArg (λx=>x[j]?) hS
                  simp only [List.getElem?_map,List.getElem?_eq_getElem h2,List.getElem?_eq_getElem h1,Option.map_some,so_]at this
                  exact this.symm
                simp only [List.getElem_map]
                show S l[j].1=_
                rw [ag.get e,W]
            len:=by rw [F,L,B];omega
            okR:=hr,okO:=hO,mutN:=by rw [F,B];exact Z
            roOK:=(λe=>by cases e),have_:=(λn I=>nomatch I),cov:=(λn h'=>by rw [O]at h';cases h'),dis:=(λn _ I=>nomatch I) }
  · have X:Sout.length-Sin.length=m:=by omega
    have e1:CallData.eff ⟨[],l.map (·.1),o,Sin,r,Sout,false⟩ S d tk=⟨((l.map (·.1)).zip Sin).map (λp=>(p.1,p.2.ren (l.map (·.1)))),fq (l.map (·.1)++nW d tk m) (l.map (·.1)++nW d tk m) Sout,ren (l.map (·.1)++nW d tk m) r⟩:=by
      simp only [CallData.eff,cond_false,CallData.names,X,iC,iB,List.nil_append]
    show K' (CallData.eff _ S d tk)
    rw [e1]
    refine hk _ _ ?_ h
    have W:(List.range m).map (λj=>(d+100000*j,tk))=nW d tk m:=rfl
    rw [W]
    show AgR _ (fP S (fq _ (l.map (·.1)++nW d tk m) Sout)) tk rest
    rw [Ck,zD]
    have e3:(l.map (·.1)).length=is.length:=by simp [B]
    rw [e3]
    have A:=C9 (ν:=l.map (·.1)++nW d tk m) ag hi R (bs:=Sout) (λj h1 h2=>by
      simp only [List.length_map]at h2
      exact⟨_,by simp only [List.getElem_map];exact N j h1 h2⟩)
    rw [List.take_of_length_le (by omega)]at A
    have e4:nW d tk m=(List.range' 0 m).map λj=>(d+100000*j,tk):=by rw [<- W,JC]
    rw [e4]at A ⊢
    exact AgR.news ok rfl m 0 ⟨A.nd,A.pos⟩ (λp hp=>⟨.inl (A.at_ p hp).1,(A.at_ p hp).2⟩)
theorem ym {ν:List Nm}:∀{o:List Nm} {bs:List (Option Box)} {p:Nm×Option Box},p∈fq ν o bs->p.1∈o
  | n::o,b::bs,p,h=>by
    rcases List.mem_cons.1 h with rfl|h
    · simp
    · exact List.mem_cons_of_mem _ (ym h)
  | [],_,_,h=>by simp [fq]at h
  | _::_,[],_,h=>by simp [fq]at h
theorem Eb:∀{is:List Nat} {l:List (Nm×Box)},pF H is=some l->∀m∈l.map (·.1),m∈H.map (·.1)
  | [],l,h,m,hm=>by simp only [pF,so_]at h;subst h;cases hm
  | i::is,l,h,m,hm=>by
    simp only [pF]at h
    split at h
    · rename_i n b o h1 h2
      simp only [so_]at h;subst h
      simp only [List.map_cons,List.mem_cons]at hm
      rcases hm with rfl|hm
      · exact Bj h1 _ (by simp)
      · exact Eb h2 m hm
    · cases h
theorem dG {f:Operand} {args:List Operand} {A:Array TypeId} {fn:FuncId} {caps o:List V} {r:V} {Sin:List Box} {Sout:List (Option Box)} (p:Nat) (is:List Nat) {l:List (Nm×Box)} (hp:q=none\/Nat.beq all.length (p+(rest.length+1))=true)
    (Y:∀S tk,AgR H S tk (⟨some d,.call ⟨.value f,args.toArray,A⟩,ty,pos,after,g⟩::rest)->okQ q all p (l.map (·.1)) true) (hc:FnM C.P fn o Sin r Sout)
    (hf:ev sl f = .fn fn caps) (hb:aI C.P fn=true) (hl:pF H is=some l) (hS:Sin.map (λb=>b.ren (l.map (·.1)))=l.map (·.2)) (I:Sin.all (λb=>b.ok is.length)=true)
    (F:((args.map (ev sl)++caps).flatMap frz).all (λn=>false)=true) (ha:(args.map (ev sl)++caps).map co0=renL (l.map (·.1)) o) (W:okL is.length o=true) (hr:okV Sout.length r=true)
    (hlen:Sout.length=is.length) (hi:is.Nodup) (hO:okOut Sout.length Sout=true)
    (hw:aQ all sl ⟨some d,.call ⟨.value f,args.toArray,A⟩,ty,pos,after,g⟩=some true)
    (v:V) (hv:ren (l.map (·.1)) r=v) (H':Hp) (hH:setH H (outs (l.map (·.1)) is (l.map (·.1)) Sout)=H')
    (h:bu (uT q p (l.map (·.1)) true) C all K rest (upd sl d v) H') :
    bu q C all K (⟨some d,.call ⟨.value f,args.toArray,A⟩,ty,pos,after,g⟩::rest) sl H:=by
  subst hv hH
  have M:(args.map (ev sl)++caps).flatMap frz=[]:=by
    cases J:(args.map (ev sl)++caps).flatMap frz with
    | nil=>rfl
    | cons a b=>rw [J]at F;simp at F
  obtain ⟨B,L⟩:=pq hl
  have X:Sin.length=l.length:=by have:=congrArg List.length hS;simpa using this
  refine uX p (l.map (·.1)) true hp Y (Eb hl) hw (λS tk K' ok Z hk=>wu hf ?_)
  have O:=yx Z hi hl
  refine .inl ⟨hb,⟨[],l.map (·.1),o,Sin,r,Sout,false⟩,?_,(λe=>by cases e),?_⟩
  · exact { does := hc
            args:=ArgsOK.of_map <| by
              show (args.map (ev sl)++caps).map (co S)=_
              rw [Gm M,ha]
            okA:=by simp only [List.length_map,B];exact W
            nodup:=O
            ins:=by
              refine yg (by simp [X]) (λj h1 h2=>⟨?_,?_⟩)
              · simp only [List.length_map,B]
                exact List.all_eq_true.1 I _ (List.getElem_mem h2)
              · simp only [List.length_map]at h1
                have e:=L j (by omega) h1
                have e2:l[j].2=Sin[j].ren (l.map (·.1)):=by
                  have:=congrArg (λx=>x[j]?) hS
                  simp only [List.getElem?_map,List.getElem?_eq_getElem h2,List.getElem?_eq_getElem h1,Option.map_some,so_]at this
                  exact this.symm
                simp only [List.getElem_map]
                show S l[j].1=_
                rw [Z.get e,e2]
            len:=by show Sin.length<=Sout.length;omega
            okR:=hr,okO:=hO,mutN:=by show mutOut (List.drop Sin.length Sout)=true;rw [List.drop_of_length_le (by omega)];rfl
            roOK:=(λe=>by cases e),have_:=(λn F=>nomatch F),cov:=(λn h'=>by rw [M]at h';cases h'),dis:=(λn _ F=>nomatch F) }
  · have R:Sout.length-Sin.length=0:=by omega
    have e1:CallData.eff ⟨[],l.map (·.1),o,Sin,r,Sout,false⟩ S d tk=⟨((l.map (·.1)).zip Sin).map (λp=>(p.1,p.2.ren (l.map (·.1)))),fq (l.map (·.1)) (l.map (·.1)) Sout,ren (l.map (·.1)) r⟩:=by
      simp only [CallData.eff,cond_false,CallData.names,R,nW,List.range_zero,List.map_nil,List.append_nil,iC,iB,List.nil_append]
    show K' (CallData.eff _ S d tk)
    rw [e1]
    refine hk _ _ ⟨λx J => ?_,λx J=>ym J⟩ (λh=>by cases h) ?_ h
    · obtain ⟨y,hy,rfl⟩:=List.mem_map.1 J
      exact (List.of_mem_zip hy).1
    · have e3:(l.map (·.1)).length=is.length:=by simp [B]
      have N:=C9 (ν:=l.map (·.1)) Z hi O (bs:=Sout) (λj h1 h2=>by
        simp only [List.length_map]at h2
        exact⟨_,by simp only [List.getElem_map];exact L j h1 h2⟩)
      rw [List.take_of_length_le (by omega)]at N
      exact N.tail
end
end Go.Eng

/-
  THE ENGINE: what may be known anew between operations; a function's end and its contract; loops over a list.
-/
namespace Go.Eng
set_option linter.unusedSectionVars false
variable [DM]
set_option linter.unusedVariables false
set_option linter.unusedSimpArgs false
section
variable {C:Cfg} {sl:Nat->V} {H:Hp} {Q:QH} {c:Code}
theorem Ag.get {S:Store} {tk:Nat} (o:Ag H S tk) {i:Nat} {n:Nm} {b:Box} (h:H[i]? = some (n,some b)):S n=some b :=
 (o.at_ _ (List.mem_of_getElem? h)).2 b rfl
theorem Ag.set {S:Store} {tk:Nat} (A:Ag H S tk) {i:Nat} {n:Nm} {I b b':Option Box} (h:H[i]? = some (n,I)) (hb:∀x,b=some x->b'=some x):Ag (H.set i (n,b)) (supd S n b') tk:=by
 have hi:i<H.length:=(List.getElem?_eq_some_iff.1 h).1
 have B:H[i]=(n,I):=(List.getElem?_eq_some_iff.1 h).2
 have hm:(H.set i (n,b)).map (·.1)=H.map (·.1):=by
  apply List.ext_getElem
  ·simp
  ·intro j h1 h2
   simp only [List.getElem_map,List.getElem_set]
   split
   ·rename_i e;subst e;rw [B]
   ·rfl
 refine⟨A.pos,by rw [hm];exact A.nd,λp J => ?_⟩
 obtain ⟨j,hj,rfl⟩:=List.getElem_of_mem J
 simp only [List.length_set]at hj
 simp only [List.getElem_set]
 split
 ·rename_i e;subst e
  have:=A.at_ (n,I) (by rw [<- B];exact List.getElem_mem hi)
  exact⟨this.1,λx F=>by simp only [supd,if_true];exact hb x F⟩
 ·rename_i e
  have h1:=A.at_ H[j] (List.getElem_mem hj)
  refine⟨h1.1,λx F => ?_⟩
  have o:H[j].1≠n:=λo=>e (mh A.nd i j (by simpa using hi) (by simpa using hj) (by simp [B,o]))
  simp only [supd,if_neg o]
  exact h1.2 x F
theorem Ag.drop {S:Store} {tk:Nat} (o:Ag H S tk) {i:Nat} {n:Nm} {A:Option Box} (h:H[i]? = some (n,A)):Ag (H.set i (n,none)) S tk:=by
 have hi:i<H.length:=(List.getElem?_eq_some_iff.1 h).1
 have B:H[i]=(n,A):=(List.getElem?_eq_some_iff.1 h).2
 have hm:(H.set i (n,none)).map (·.1)=H.map (·.1):=by
  apply List.ext_getElem
  ·simp
  ·intro j h1 h2
   simp only [List.getElem_map,List.getElem_set]
   split
   ·rename_i e;subst e;rw [B]
   ·rfl
 refine⟨o.pos,by rw [hm];exact o.nd,λp F => ?_⟩
 obtain ⟨j,hj,rfl⟩:=List.getElem_of_mem F
 simp only [List.length_set]at hj
 simp only [List.getElem_set]
 split
 ·rename_i e;subst e
  have:=o.at_ (n,A) (by rw [<- B];exact List.getElem_mem hi)
  exact⟨this.1,λx I=>by cases I⟩
 ·exact o.at_ H[j] (List.getElem_mem hj)
theorem JY {i:Nat} {n:Nm} {o:Option Box} (h:H[i]? = some (n,o)) (B:wH C c Q sl (H.set i (n,none))):wH C c Q sl H :=
 nP B (λS t A=>⟨S,.refl _,A.drop h⟩)
theorem freeze1 {S:Store} {n:Nm} {sz:Nat} {ys:List (List D)} (h:S n=some (.vec sz ys)):freezeAll S [n]=supd S n (some (.froz sz ys)):=by
 simp [freezeAll,iB,h,fP]
theorem jl (h:∀n:Nm,wH C c Q sl (H++[(n,none)])):wH C c Q sl H:=λok S t A=>by
 have B:∃m:Nat,∀p∈H,p.1.1<m:=by
  clear h A
  induction H with
  | nil=>exact⟨0,λp o=>by cases o⟩
  | cons x H I =>
   obtain ⟨m,hm⟩:=I
   refine⟨max m (x.1.1+1),λp o => ?_⟩
   rcases List.mem_cons.1 o with rfl|o
   ·omega
   ·have:=hm p o;omega
 obtain ⟨m,hm⟩:=B
 refine h (m,0) ok S t ⟨A.pos,?_,λp o => ?_⟩
 ·rw [List.map_append,List.nodup_append]
  refine⟨A.nd,by simp,λa J b hb e => ?_⟩
  simp only [List.map_cons,List.map_nil,List.mem_singleton]at hb
  obtain ⟨p,o,rfl⟩:=List.mem_map.1 J
  have:=hm p o
  rw [e,hb]at this
  exact Nat.lt_irrefl _ this
 ·rcases List.mem_append.1 o with o|o
  ·exact A.at_ p o
  ·simp only [List.mem_singleton]at o
   subst o
   exact⟨A.pos,λx F=>by cases F⟩
theorem yQ {ν:List Nm} {i:Nat} {n:Nm} (h:ν[i]? = some n):yB ν (ax i)=n:=by
 simp only [yB,sJ,List.getD_eq_getElem?_getD,h,Option.getD_some]
theorem SI {α:Type} {ν:List Nm} {n:Nm} {sz:Nat} (xs:List α):ren ν (gV n sz xs)=gV (yB ν n) sz xs:=by cases xs <;> rfl
theorem Ti {α:Type} {k i sz:Nat} (h:i<k) (xs:List α):okV k (gV (ax i) sz xs)=true:=by
 cases xs with
 | nil=>rfl
 | cons x xs=>exact NU h
def resC (C:Cfg) (sl:Nat->V) (H:Hp) (a t:Nat) (v:V):Prop:=∃(k:Nat) (n:Nm) (i j sz size:Nat) (cs:List V) (agg:Bool),
 sl a = .ref n i j/\H[k]? = some (n,some (.cells sz cs))/\szT C.P t=some size/\bW C.P t=agg/\rdV agg size (cs.drop (i*sz+j))=some v
def Ic (C:Cfg) (sl:Nat->V) (H:Hp):List ResultVar->List V->Prop
 | [],[]=>True
 | .tmp t::h,v::vs=>sl t=v/\Ic C sl H h vs
 | .cell a t::h,v::vs=>resC C sl H a t v/\Ic C sl H h vs
 | _,_=>False
theorem KT {S:Store} {tk:Nat} (A:Ag H S tk):∀{o:List ResultVar} {vs:List V},Ic C sl H o vs->Gr C ⟨sl,S,tk⟩ o=some vs
 | [],[],_=>rfl
 | .tmp t::o,v::vs,h=>by
  obtain ⟨rfl,h⟩:=h
  simp only [Gr,KT A h,Option.map_some]
 | .cell a t::o,v::vs,h=>by
  obtain ⟨⟨k,n,i,j,sz,size,cs,agg,h1,h2,B,I,F⟩,h⟩:=h
  have e:vX C.P t S (sl a)=some ⟨[(n,.cells sz cs)],[],v⟩:=by
   rw [h1,DR B I,A.get h2]
   simp only [LA,F,Option.map_some]
  simp only [Gr,e,KT A h]
 | [],_::_,h=>h.elim
 | .tmp _::_,[],h=>h.elim
 | .cell _ _::_,[],h=>h.elim
def CoOK (H:Hp) (v v':V):Prop:=v'=v\/∀S t,Ag H S t->v'=co S v
theorem Tp (v:V):CoOK H v v := .inl rfl
theorem kX {v v':V} (h:frz v=[]) (h2:co0 v=v'):CoOK H v v' := .inr λS t _=>by rw [co_0 h,h2]
inductive CoL (H:Hp):List V->List V->Prop
 | nil:CoL H [] []
 | cons {v v':V} {vs vs':List V} (h:CoOK H v v') (hs:CoL H vs vs'):CoL H (v::vs) (v'::vs')
theorem CoL.get {vs o:List V} (h:CoL H vs o):vs.length=o.length/\∀(i:Nat) (h1:i<vs.length) (h2:i<o.length),CoOK H vs[i] o[i]:=by
 induction h with
 | nil=>exact⟨rfl,λi h1=>absurd h1 (Nat.not_lt_zero i)⟩
 | cons h _ A =>
  refine⟨by simp [A.1],λi h1 h2 => ?_⟩
  cases i with
  | zero=>exact h
  | succ i=>exact A.2 i (by simpa using h1) (by simpa using h2)
def Cm (H:Hp) (ν:List Nm):List Nat->List Nm->List (Option Box)->Prop
 | [],[],[]=>True
 | j::h,n::o,b::bs=>H[j]? = some (n,b.map (·.ren ν))/\Cm H ν h o bs
 | _,_,_=>False
theorem H9 {ν:List Nm}:∀{A:List Nat} {o:List Nm} {bs:List (Option Box)},Cm H ν A o bs->A.length=o.length/\o.length=bs.length
 | [],[],[],_=>⟨rfl,rfl⟩
 | _::_,_::_,_::_,h=>⟨by simp [(H9 h.2).1],by simp [(H9 h.2).2]⟩
 | [],_::_,_,h=>h.elim
 | [],[],_::_,h=>h.elim
 | _::_,[],_,h=>h.elim
 | _::_,_::_,[],h=>h.elim
theorem Dv {ν:List Nm}:∀{o:List Nat} {A:List Nm} {bs:List (Option Box)} (_:Cm H ν o A bs) (i:Nat) (h1:i<o.length) (h2:i<A.length) (B:i<bs.length),H[o[i]]? = some (A[i],bs[i].map (·.ren ν))
 | _::_,_::_,_::_,h,0,_,_,_=>h.1
 | _::_,_::_,_::_,h,i+1,h1,h2,B=>Dv h.2 i (by simpa using h1) (by simpa using h2) (by simpa using B)
def pI (C:Cfg) (A:List ResultVar) (k:Nat) (r:V) (Sout:List (Option Box)):QH:=λe sl H=>(e = .normal\/e = .ret) /\
 ∃(vs h:List V) (o:List Nat) (ν:List Nm),Ic C sl H A vs/\CoL H vs h/\GI h=ren ν r/\Cm H ν o ν Sout/\o.Nodup/\(∀i,i<k->ν[i]? = some (ax i))
theorem OU {I:List ResultVar} {k:Nat} {r:V} {Sout:List (Option Box)} {e:Exit} {σ:St} (h:M7 (pI C I k r Sout) e σ):retQ C I (Pt k r Sout) e σ:=by
 obtain ⟨H,B,R,vs,J,O,ν,h1,h2,h3,A,h5,h6⟩:=h
 obtain ⟨l1,W⟩:=H9 A
 obtain ⟨X,Z⟩:=h2.get
 have L:ν.Nodup:=by
  refine List.pairwise_iff_getElem.2 (λa b Y hb hab e => ?_)
  have M:=List.getElem?_eq_some_iff.1 (Dv A a (by omega) Y (by omega))
  have N:=List.getElem?_eq_some_iff.1 (Dv A b (by omega) hb (by omega))
  have:=mh B.nd O[a] O[b] (by simpa using M.1) (by simpa using N.1) (by simp [M.2,N.2,e])
  have:=mh h5 a b (by omega) (by omega) this
  omega
 have fin:Pt k r Sout vs σ.store:=⟨J,ν,X,λi q1 q2=>(Z i q1 q2).imp id (λh=>h _ _ B),h3,W,L,h6,λi bx hb=>by
  obtain ⟨hi,F⟩:=List.getElem?_eq_some_iff.1 hb
  have:=Dv A i (by omega) (by omega) hi
  rw [F]at this
  exact⟨ν[i],List.getElem?_eq_getElem (by omega),B.get this⟩⟩
 have o:Gr C σ I=some vs:=KT B h1
 rcases R with rfl|rfl
 ·exact⟨vs,o,fin⟩
 ·exact⟨vs,o,fin⟩
theorem fin0 {o:List ResultVar} {r:V} {e:Exit} (B:e = .normal\/e = .ret) (vs:List V) (h1:Ic C sl H o vs) (h2:(vs.flatMap frz).all (λ_=>false)=true) (F:GI (vs.map co0)=r) (J:okV 0 r=true):pI C o 0 r [] e sl H:=by
 have A:vs.flatMap frz=[]:=by
  cases hx:vs.flatMap frz with
  | nil=>rfl
  | cons a b=>rw [hx]at h2;simp at h2
 have hc:∀{vs:List V},vs.flatMap frz=[]->CoL H vs (vs.map co0):=by
  intro vs
  induction vs with
  | nil=>exact λ_ => .nil
  | cons v vs I=>exact λh => .cons (kX (vo h v (by simp)) rfl) (I (by simp only [List.flatMap_cons,List.append_eq_nil_iff]at h;exact h.2))
 exact⟨B,vs,_,[],[],h1,hc A,by rw [F,wB J],trivial,List.nodup_nil,λi hi=>absurd hi (Nat.not_lt_zero i)⟩
theorem Bf {A:List ResultVar} {k:Nat} {r:V} {Sout:List (Option Box)} {e:Exit} (J:e = .normal\/e = .ret) (vs h:List V) (o:List Nat) (ν:List Nm) (h1:Ic C sl H A vs) (h2:CoL H vs h) (B:GI h=ren ν r)
  (L:Cm H ν o ν Sout) (I:o.Nodup) (F:(ν.take k)=(List.range k).map ax):pI C A k r Sout e sl H :=
 ⟨J,vs,h,o,ν,h1,h2,B,L,I,λi hi=>by
  have:(ν.take k)[i]? = ((List.range k).map ax)[i]? := by rw [F]
  rw [List.getElem?_take,if_pos hi]at this
  rw [this];simp [hi]⟩
def ru:Nat->List Box->Hp
 | _,[]=>[]
 | i,b::bs=>(ax i,some b)::ru (i+1) bs
theorem xZ:∀{bs:List Box} {i:Nat} {p:Nm×Option Box},p∈ru i bs->∃j b,p=(ax (i+j),some b)/\bs[j]? = some b
 | b::bs,i,p,h=>by
  rcases List.mem_cons.1 h with rfl|h
  ·exact⟨0,b,rfl,rfl⟩
  ·obtain ⟨j,b',h1,h2⟩:=xZ h
   exact⟨j+1,b',by rw [h1];congr 2;omega,by simpa using h2⟩
theorem Gq:∀(bs:List Box) (i:Nat),((ru i bs).map (·.1)).Nodup
 | [],_=>List.nodup_nil
 | b::bs,i=>by
  refine List.nodup_cons.2 ⟨λh => ?_,Gq bs (i+1)⟩
  obtain ⟨p,A,o⟩:=List.mem_map.1 h
  obtain ⟨j,b',h1,_⟩:=xZ A
  rw [h1]at o
  simp only [ax,Prod.mk.injEq,and_true]at o
  omega
theorem FnM.of_wH {P:Program} {f:FuncId} {fn:Func} {body:Code} (C:Cfg) (B:C.P=P) (hf:P.funcs[f]? = some fn) (hb:fn.body=some body) (L:C.n=fn.ntmps)
  {args:List V} {Sin:List Box} {r:V} {Sout:List (Option Box)} (hl:args.length<=fn.ntmps) (o:sF C body=true)
  (h:wH C body (pI C fn.results.toList Sin.length r Sout) (PK args) (ru 0 Sin)):FnM P f args Sin r Sout:=by
 refine FnM.of_wpD' hf hb B L hl ?_
 obtain ⟨J,F,M⟩:=h o (iY Sin) 1 ⟨Nat.one_pos,Gq _ _,λp I=>by
  obtain ⟨j,b,rfl,hb⟩:=xZ I
  refine⟨Nat.one_pos,λx A => ?_⟩
  simp only [so_]at A
  subst A
  rw [Cx,Nat.zero_add];exact hb⟩
 exact⟨J,F,l6 body (λe σ h=>OU h) M⟩
end
end Go.Eng

/-
  THE PLAIN FORMS: how a round ends, loops over a list, loops in general; and what a walk asks of them.
-/
namespace Go.Eng
set_option linter.unusedSectionVars false
variable [DM]
set_option linter.unusedVariables false
inductive Ctl (σ ρ:Type) where
 | go (s:σ)
 | brk (s:σ)
 | ret (r:ρ)
def forR {α σ ρ:Type} (body:Nat->α->σ->Option (Ctl σ ρ)):List α->Nat->σ->Option (Ctl σ ρ)
 | [],_,s=>some (.go s)
 | x::xs,k,s=>(body k x s).bind λc=>match c with
  | .go h=>forR body xs (k+1) h
  | .brk h=>some (.go h)
  | .ret r=>some (.ret r)
def forL {α σ ρ:Type} (xs:List α) (s:σ) (body:Nat->α->σ->Option (Ctl σ ρ)):Option (Ctl σ ρ):=if xs.length<=1000000000000 then forR body xs 0 s else none
def iterN {σ ρ:Type} (body:σ->Option (Ctl σ ρ)):Nat->σ->Option (Ctl σ ρ)
 | 0,_=>none
 | n+1,s=>(body s).bind λc=>match c with
  | .go h=>iterN body n h
  | .brk h=>some (.go h)
  | .ret r=>some (.ret r)
open Classical in
noncomputable def jK {σ ρ:Type} (s:σ) (body:σ->Option (Ctl σ ρ)):Option (Ctl σ ρ):=if h:∃n o,iterN body n s=some o then some h.choose_spec.choose else none
theorem dF {σ ρ:Type} {s:σ} {body:σ->Option (Ctl σ ρ)} {o:Ctl σ ρ} (h:jK s body=some o):∃n,iterN body n s=some o:=by
 unfold jK at h
 split at h
 ·rename_i A
  simp only [so_]at h
  exact⟨A.choose,by rw [A.choose_spec.choose_spec,h]⟩
 ·cases h
theorem Cb {σ ρ:Type} {body:σ->Option (Ctl σ ρ)}:∀{n:Nat} {s:σ} {o:Ctl σ ρ} (m:Nat),iterN body n s=some o->n<=m->iterN body m s=some o
 | 0,_,_,_,h,_=>by cases h
 | n+1,s,o,0,h,hm=>by omega
 | n+1,s,o,m+1,h,hm=>by
  simp only [iterN,Option.bind_eq_some_iff]at h ⊢
  obtain ⟨c,h1,h2⟩:=h
  refine⟨c,h1,?_⟩
  cases c with
  | go A=>exact Cb m h2 (by omega)
  | brk A=>exact h2
  | ret r=>exact h2
theorem ng {σ ρ:Type} {s:σ} {body:σ->Option (Ctl σ ρ)} {o:Ctl σ ρ} {n:Nat} (h:iterN body n s=some o):jK s body=some o:=by
 have A:∃n o,iterN body n s=some o:=⟨n,o,h⟩
 unfold jK
 rw [dif_pos A]
 have h1:=A.choose_spec.choose_spec
 have h2:=Cb (max n A.choose) h1 (Nat.le_max_right _ _)
 rw [Cb (max n A.choose) h (Nat.le_max_left _ _)]at h2
 exact h2.symm
theorem bind_some {α β:Type} {x:Option α} {f:α->Option β} {r:β} (h:x.bind f=some r):∃a,x=some a/\f a=some r:=Option.bind_eq_some_iff.1 h
theorem aj {α:Type} {c:Bool} {x y:Option α} {r:α} (h:(bif c then x else y)=some r):(c=true/\x=some r)\/(c=false/\y=some r):=by
 cases c with
 | true=>exact .inl ⟨rfl,h⟩
 | false=>exact .inr ⟨rfl,h⟩
theorem aS {α σ ρ:Type} {xs:List α} {s:σ} {body:Nat->α->σ->Option (Ctl σ ρ)} {o:Ctl σ ρ} (h:forL xs s body=some o):xs.length<=1000000000000/\forR body xs 0 s=some o:=by
 unfold forL at h
 split at h
 ·exact⟨‹_›,h⟩
 ·cases h
theorem drop_nil {α:Type} {xs:List α} {k:Nat} (h:xs.drop k=[]):decide ((k:Int)<(xs.length:Int))=false:=by
 have:=List.drop_eq_nil_iff.1 h
 simp;omega
theorem FR {α:Type} {xs l:List α} {x:α} {k:Nat} (h:xs.drop k=x::l):k<xs.length:=by
 have h1:(xs.drop k).length=(x::l).length:=by rw [h]
 simp at h1;omega
theorem aZ {α:Type} {xs l:List α} {x:α} {k:Nat} (h:xs.drop k=x::l):decide ((k:Int)<(xs.length:Int))=true:=by
 have:=FR h
 simp;omega
theorem bz {α:Type} {xs l:List α} {x:α} {k:Nat} (h:xs.drop k=x::l):idx xs (k:Int)=some x:=by
 have h1:(xs.drop k)[0]? = some x:=by rw [h];rfl
 rw [List.getElem?_drop]at h1
 simp only [idx]
 rw [if_pos (by omega)]
 simpa using h1
theorem MC {α:Type} {xs l:List α} {x:α} {k:Nat} (h:xs.drop k=x::l):xs[k]? = some x:=by
 have h1:(xs.drop k)[0]? = some x:=by rw [h];rfl
 rw [List.getElem?_drop]at h1
 simpa using h1
theorem aP {α:Type} {xs l:List α} {x:α} {k:Nat} (h:xs.drop k=x::l):xs.drop (k+1)=l:=by
 have h1:(xs.drop k).drop 1=l:=by rw [h];rfl
 rwa [List.drop_drop]at h1
theorem Ga (n:Int) (h : -9223372036854775808<=n/\n<=9223372036854775807):w64 n=n:=IntWalk.i64_in n h
theorem bf {α:Type} {xs l:List α} {x:α} {k:Nat} (h:xs.drop k=x::l) (hl:xs.length<=1000000000000):w64 ((k:Int)+1)=((k+1:Nat):Int):=by
 have:=FR h
 rw [Ga _ (by omega)];omega
theorem dx {C:Cfg} {sl:Nat->V} {H:Hp} {q:Qm} {all rest:List Oper} {K:(Nat->V)->Hp->Prop} {dst:Option Tmp} {ty:TypeId} {pos:String} {after:Array Edge} {g:Option (Nat×Bool)} {op:Op} {a b:Int} (e:w64 a=b)
  (A:aQ all sl ⟨dst,op,ty,pos,after,g⟩=some true) (o:EW C sl op=some (vI (w64 a))) (h:bu q C all K rest (eF sl dst (vI b)) H):bu q C all K (⟨dst,op,ty,pos,after,g⟩::rest) sl H :=
 aJ _ A o (by rw [e];exact h)
end Go.Eng

/-
  THE ENGINE: what the printed proofs use besides.
-/
namespace Go.Eng
set_option linter.unusedSectionVars false
variable [DM]
set_option linter.unusedVariables false
set_option linter.unusedSimpArgs false
def eL {α:Type} (enc:α->List D) (xs:List α):List D:=[dl enc xs]
abbrev sEq (a b:ByteArray):Bool:=a.toList==b.toList
abbrev sNe (a b:ByteArray):Bool := !(a.toList==b.toList)
abbrev sLt (a b:ByteArray):Bool:=Op.bytesLess a.toList b.toList
abbrev sLe (a b:ByteArray):Bool:=Op.bytesLess a.toList b.toList||a.toList==b.toList
abbrev Al (a b:Int):Int:=if b<a then b else a
abbrev xH (a b:Int):Int:=if b>a then b else a
abbrev Rp (k:IntKind) (a b:Int):Int:=k.wrap (BitVec.ofInt k.bits a &&& BitVec.ofInt k.bits b).toNat
def N9 (k:IntKind) (a b:Int):Option Int:=if b=0 then none else some (k.wrap (a.tdiv b))
def MP (k:IntKind) (a b:Int):Option Int:=if b=0 then none else some (a.tmod b)
def shlO (k:IntKind) (a b:Int):Option Int:=if b<0 then none else some (k.wrap (a*2 ^ (min b.toNat k.bits)))
def P9 (k:IntKind) (a b:Int):Option Int:=if b<0 then none else some (a.fdiv (2 ^ (min b.toNat k.bits)))
def Be (s:ByteArray) (i:Int):Option UInt8:=if 0<=i then s[i.toNat]? else none
def Mj (s:ByteArray) (h hi:Int):Option ByteArray:=if 0<=h/\0<=hi/\h.toNat<=hi.toNat/\hi.toNat<=s.size then some (s.extract h.toNat hi.toNat)else none
def J4 {α:Type} (xs:List α) (h hi:Int):Option (List α):=if 0<=h/\0<=hi/\h.toNat<=hi.toNat/\hi.toNat<=xs.length then some ((xs.take hi.toNat).drop h.toNat)else none
def inR {α:Type} (i:Int) (xs:List α):Option Unit:=if 0<=i/\i.toNat<xs.length then some ()else none
theorem gN {α:Type} {i:Int} {xs:List α} {u:Unit} (h:inR i xs=some u):0<=i:=by
  unfold inR at h;split at h
  · rename_i h1;exact h1.1
  · cases h
theorem dP {α:Type} {i:Int} {xs:List α} {u:Unit} (h:inR i xs=some u):i.toNat<xs.length:=by
  unfold inR at h;split at h
  · rename_i h1;exact h1.2
  · cases h
def thenC {σ ρ τ:Type} (o:Ctl σ ρ) (f:σ->Option τ) (g:ρ->Option τ):Option τ:=match o with
  | .go s=>f s
  | .brk _=>none
  | .ret r=>g r
theorem mg {n:Int} {k:Nat} (h:(List.range n.toNat).drop k=[]):decide ((k:Int)<n)=false:=by
  have:=List.drop_eq_nil_iff.1 h
  simp at this
  simp;omega
theorem kR {n:Int} {k x:Nat} {l:List Nat} (h:(List.range n.toNat).drop k=x::l):decide ((k:Int)<n)=true:=by
  have:=FR h
  simp at this
  simp;omega
theorem ma {n:Int} {k x:Nat} {l:List Nat} (h:(List.range n.toNat).drop k=x::l) (hl:(List.range n.toNat).length<=1000000000000):w64 ((k:Int)+1)=((k+1:Nat):Int):=bf h hl
theorem ae {α:Type} {a b:α} (h:some a=some b):a=b:=Option.some.inj h
theorem kY {α:Type} {a b:α} {l m:List α} (h:a=b) (h2:l=m):a::l=b::m:=by rw [h,h2]
theorem stC_g {α:Type} {cs:List V} {o sz:Nat} {n:Nm} {xs:List α} (h:Nat.ble (o+1) cs.length=true):stC 1 cs o (gV n sz xs)=some (splice cs [gV n sz xs] o):=by
  cases xs with
  | nil=>simp only [stC,gV,bB,List.length_cons,List.length_nil,Nat.zero_add,h];rfl
  | cons x xs=>simp only [stC,gV,bB,List.length_cons,List.length_nil,Nat.zero_add,h];rfl
section
variable {C:Cfg} {sl:Nat->V} {H:Hp} {Q:QH} {c:Code}
theorem xV (H:Hp):pre H H:=aG List.take_length
theorem aU {β:Type} {h:β->List (Nat×V)} {o:β->Hp} {R:β->Prop} (x:β) (A:R x) (F:pick (h x) sl=h x) (B:pre (o x) H):Mh h o R sl H:=⟨x,A,F,B⟩
theorem cu {h:Unit->List (Nat×V)} {o:Unit->Hp} (B:pick (h ()) sl=h ():=by rfl) (A:H.take (o ()).length=o ():=by rfl):Mh h o (λ_=>True) sl H:=aU () trivial B (aG A)
theorem aV {β:Type} {h:β->List (Nat×V)} {A:β->Hp} {R:β->Prop} {m:β->Nat} {x:β} (o:β) (F:R o) (hm:m o<m x) (I:pick (h o) sl=h o) (B:pre (A o) H):loopE h A R m x sl H:=⟨o,F,hm,I,B⟩
theorem Lb {α:Type} {enc:α->List D} {xs:List α} {sz:Nat} {n:Nm} (i:Nat) (h:H[i]? = some (n,some (bV sz enc xs))) (B:wH C c Q sl (H.set i (n,some (bF sz enc xs)))):wH C c Q sl H :=
  nP B (λS t o=>⟨freezeAll S [n],Gst.froz ⟨sl,S,t⟩ n,by rw [freeze1 (o.get h)];exact o.set h (λx A=>A)⟩)
theorem jP {α:Type} {enc:α->List D} {xs:List α} {sz:Nat} {n:Nm} (i:Nat) (h:H[i]? = some (n,gB sz enc xs)) (o:wH C c Q sl (H.set i (n,gF sz enc xs))):wH C c Q sl H:=by
  cases xs with
  | nil=>exact nP o (λS t A=>⟨S,.refl _,A.drop h⟩)
  | cons x xs=>exact Lb i h o
theorem JJ {α:Type} {enc:α->List D} {xs:List α} {sz:Nat} {n:Nm} (k i:Nat) (I:sl k=vV n sz xs) (h:H[i]? = some (n,some (bF sz enc xs))) (F:wH C c Q (upd sl k (vL enc xs)) H):wH C c Q sl H :=
  nP F (λS t o=>⟨S,by
    have:=Gst.co ⟨sl,S,t⟩ k
    have e:co S (sl k)=vL enc xs:=by
      rw [I]
      have B:=o.get h
      have h1:Nat.beq sz sz=true:=Nat.beq_refl sz
      have h2:Nat.ble xs.length xs.length=true:=Nat.ble_eq_true_of_le (Nat.le_refl _)
      have A:(xs.map enc).take xs.length=xs.map enc:=List.take_of_length_le (by simp)
      simp [co,co1,B,h1,h2,A]
    simp only [e]at this
    exact this,o⟩)
theorem fI {α:Type} {enc:α->List D} {xs:List α} {sz:Nat} {n:Nm} (k i:Nat) (A:sl k=gV n sz xs) (h:H[i]? = some (n,gF sz enc xs)) (o:wH C c Q (upd sl k (vL enc xs)) H):wH C c Q sl H:=by
  cases xs with
  | nil =>
    refine nP o (λS t B=>⟨S,?_,B⟩)
    have:=Gst.co ⟨sl,S,t⟩ k
    have e:co S (sl k)=vL enc ([]:List α):=by rw [A];rfl
    simp only [e]at this
    exact this
  | cons x xs=>exact JJ k i A h o
theorem Pw {α:Type} (enc:α->List D) (k:Nat) (h:sl k = .nil) (A:wH C c Q (upd sl k (vL enc [])) H):wH C c Q sl H :=
  nP A (λS t o=>⟨S,by
    have:=Gst.co ⟨sl,S,t⟩ k
    have e:co S (sl k)=vL enc ([]:List α):=by rw [h];rfl
    simp only [e]at this
    exact this,o⟩)
theorem co_gF {α:Type} {enc:α->List D} {xs:List α} {sz i:Nat} {n:Nm} {S:Store} {t:Nat} (A:Ag H S t) (hi:H[i]? = some (n,gF sz enc xs)):co1 S (gV n sz xs)=vL enc xs:=by
    cases xs with
    | nil=>rfl
    | cons x xs =>
      have o:S n=some (.froz sz ((x::xs).map enc)):=A.get hi
      have h1:Nat.beq sz sz=true:=Nat.beq_refl sz
      have h2:Nat.ble (xs.length+1) (xs.length+1)=true:=Nat.ble_eq_true_of_le (Nat.le_refl _)
      have h:(xs.map enc).take xs.length=xs.map enc:=List.take_of_length_le (by simp)
      simp only [gV,co1,o,h1,Nat.zero_add,List.length_cons,List.length_map,List.map_cons,h2,Bool.and_self,cond_true,List.drop_zero,List.take_succ_cons,h]
      rfl
theorem wH_coc {α:Type} {enc:α->List D} {xs:List α} {sz s:Nat} {n m:Nm} {cs:List V} (i j:Nat) (h:List V) (hi:H[i]? = some (n,gF sz enc xs)) (hj:H[j]? = some (m,some (.cells s cs)))
    (hc:∀S,co1 S (gV n sz xs)=vL enc xs->cs.map (co1 S)=h) (I:wH C c Q sl (H.set j (m,some (.cells s h)))):wH C c Q sl H:=by
  refine nP I (λS t o => ?_)
  have hm:=o.get hj
  have h1:co1 S (gV n sz xs)=vL enc xs:=by
    cases xs with
    | nil=>rfl
    | cons x xs =>
      have A:S n=some (.froz sz ((x::xs).map enc)):=o.get hi
      have h1:Nat.beq sz sz=true:=Nat.beq_refl sz
      have h2:Nat.ble (xs.length+1) (xs.length+1)=true:=Nat.ble_eq_true_of_le (Nat.le_refl _)
      have B:(xs.map enc).take xs.length=xs.map enc:=List.take_of_length_le (by simp)
      simp only [gV,co1,A,h1,Nat.zero_add,List.length_cons,List.length_map,List.map_cons,h2,Bool.and_self,cond_true,List.drop_zero,List.take_succ_cons,B]
      rfl
  refine⟨supd S m (some (.cells s (cs.map (co1 S)))),Gst.coB ⟨sl,S,t⟩ m s cs hm,?_⟩
  rw [hc S h1]
  exact o.set hj (λx F=>F)
end
section
variable {C:Cfg} {sl:Nat->V} {H:Hp} {q:Qm} {all rest:List Oper} {K:(Nat->V)->Hp->Prop}
variable {dst:Option Tmp} {d:Nat} {t ty:TypeId} {pos:String} {after:Array Edge} {g:Option (Nat×Bool)}
theorem zH {s e:TypeId} {x:Operand} {k k':IntKind} {n:Int} {u:TypeDesc} (h1:C.P.underlying s=some u) (h2:C.P.underlying e=some (.int k)) (o:ev sl x = .d (.int k' n))
    (A:aQ all sl ⟨dst,.convert s e x,ty,pos,after,g⟩=some true) (h:bu q C all K rest (eF sl dst (.d (.int k (k.wrap n)))) H):bu q C all K (⟨dst,.convert s e x,ty,pos,after,g⟩::rest) sl H :=
  aJ _ A (by show Ja C.P s e (ev sl x)=_;rw [o];simp only [Ja,h1,h2]) h
theorem SA {e e':TypeId} {x y:Operand} {k:IntKind} {a b c:Int} (A:ev sl x = .d (.int k a)) (o:ev sl y = .d (.int k b)) (hc:N9 k a b=some c) (B:aQ all sl ⟨dst,.binOp .quo e x y e',ty,pos,after,g⟩=some true)
    (h:bu q C all K rest (eF sl dst (.d (.int k c))) H):bu q C all K (⟨dst,.binOp .quo e x y e',ty,pos,after,g⟩::rest) sl H :=
  aJ _ B (by
    refine xQ ?_
    show uL C.P .quo e (ev sl x) (ev sl y)=_
    rw [A,o]
    unfold N9 at hc
    split at hc
    · cases hc
    · rename_i hb;simp only [so_]at hc;subst hc;simp [uL,Lp,IR,LQ,hb]) h
theorem SQ {e e':TypeId} {x y:Operand} {k:IntKind} {a b c:Int} (A:ev sl x = .d (.int k a)) (o:ev sl y = .d (.int k b)) (hc:MP k a b=some c) (B:aQ all sl ⟨dst,.binOp .rem e x y e',ty,pos,after,g⟩=some true)
    (h:bu q C all K rest (eF sl dst (.d (.int k c))) H):bu q C all K (⟨dst,.binOp .rem e x y e',ty,pos,after,g⟩::rest) sl H :=
  aJ _ B (by
    refine xQ ?_
    show uL C.P .rem e (ev sl x) (ev sl y)=_
    rw [A,o]
    unfold MP at hc
    split at hc
    · cases hc
    · rename_i hb;simp only [so_]at hc;subst hc;simp [uL,Lp,IR,LQ,hb]) h
theorem h_shl {e e':TypeId} {x y:Operand} {k k':IntKind} {a b c:Int} (A:ev sl x = .d (.int k a)) (o:ev sl y = .d (.int k' b)) (hc:shlO k a b=some c) (B:aQ all sl ⟨dst,.binOp .shl e x y e',ty,pos,after,g⟩=some true)
    (h:bu q C all K rest (eF sl dst (.d (.int k c))) H):bu q C all K (⟨dst,.binOp .shl e x y e',ty,pos,after,g⟩::rest) sl H :=
  aJ _ B (by
    refine xQ ?_
    show uL C.P .shl e (ev sl x) (ev sl y)=_
    rw [A,o]
    unfold shlO at hc
    split at hc
    · cases hc
    · rename_i hb;simp only [so_]at hc;subst hc;simp [uL,Lp,IR,RU,hb]) h
theorem OA {e e':TypeId} {x y:Operand} {k k':IntKind} {a b c:Int} (A:ev sl x = .d (.int k a)) (o:ev sl y = .d (.int k' b)) (hc:P9 k a b=some c) (B:aQ all sl ⟨dst,.binOp .shr e x y e',ty,pos,after,g⟩=some true)
    (h:bu q C all K rest (eF sl dst (.d (.int k c))) H):bu q C all K (⟨dst,.binOp .shr e x y e',ty,pos,after,g⟩::rest) sl H :=
  aJ _ B (by
    refine xQ ?_
    show uL C.P .shr e (ev sl x) (ev sl y)=_
    rw [A,o]
    unfold P9 at hc
    split at hc
    · cases hc
    · rename_i hb;simp only [so_]at hc;subst hc;simp [uL,Lp,IR,RU,hb]) h
theorem rT {e e':TypeId} {x y:Operand} {a b c:ByteArray} (A:ev sl x=vS a) (o:ev sl y=vS b) (hc:pJ a b=some c) (B:aQ all sl ⟨dst,.binOp .add e x y e',ty,pos,after,g⟩=some true)
    (h:bu q C all K rest (eF sl dst (vS c)) H):bu q C all K (⟨dst,.binOp .add e x y e',ty,pos,after,g⟩::rest) sl H :=
  aJ _ B (by
    refine xQ ?_
    show uL C.P .add e (ev sl x) (ev sl y)=_
    rw [A,o]
    unfold pJ at hc
    split at hc
    · cases hc
    · rename_i hb;simp only [so_]at hc;subst hc;simp only [uL,Lp,Pv,if_neg hb,Option.map_some]) h
theorem Tn {e e':TypeId} {x y:Operand} {a b:Bool} (A:C.P.underlying e=some .bool) (B:ev sl x=vB a) (o:ev sl y=vB b) (F:aQ all sl ⟨dst,.binOp .neq e x y e',ty,pos,after,g⟩=some true)
    (h:bu q C all K rest (eF sl dst (vB (!(a==b)))) H):bu q C all K (⟨dst,.binOp .neq e x y e',ty,pos,after,g⟩::rest) sl H :=
  aJ _ F (by refine xQ ?_;show uL C.P .neq e (ev sl x) (ev sl y)=_;rw [B,o];simp only [uL,A]) h
theorem yM {x i:Operand} {s:ByteArray} {k:IntKind} {n:Int} {b:UInt8} (o:C.P.underlying t=some .string) (A:ev sl x=vS s) (hi:ev sl i = .d (.int k n)) (hb:Be s n=some b) (F:aQ all sl ⟨dst,.index t x i,ty,pos,after,g⟩=some true)
    (h:bu q C all K rest (eF sl dst (.d (.int .u8 (b.toNat:Int)))) H):bu q C all K (⟨dst,.index t x i,ty,pos,after,g⟩::rest) sl H :=
  aJ _ F (by
    show zA C.P t (ev sl x) (ev sl i)=_
    rw [A,hi]
    unfold Be at hb
    split at hb
    · rename_i B;simp [zA,o,B,hb]
    · cases hb) h
section sub
variable {x l hi:Operand} {s r:ByteArray} {k k':IntKind} {a b:Int}
theorem Pn (B:C.P.underlying t=some .string) {A hi:Option V} {l h:Int} (h1:si 0 A=some l.toNat/\0<=l) (h2:si s.size hi=some h.toNat/\0<=h) (o:Mj s l h=some r):oq C.P t (vS s) A hi none=some (vS r):=by
  unfold Mj at o
  split at o
  · rename_i hc;simp only [so_]at o;subst o
    simp [oq,B,h1.1,h2.1,hc.2.2.1,hc.2.2.2]
  · cases o
theorem Dh {s r:ByteArray} {l h:Int} (o:Mj s l h=some r):0<=l/\0<=h:=by
  unfold Mj at o;split at o
  · rename_i hc;exact⟨hc.1,hc.2.1⟩
  · cases o
theorem MZ {d:Nat} {k:IntKind} {a:Int} (h:0<=a):si d (some (.d (.int k a)))=some a.toNat:=by simp [si,h]
theorem Hu (A:C.P.underlying t=some .string) (F:ev sl x=vS s) (hl:ev sl l = .d (.int k a)) (o:Mj s a s.size=some r) (B:aQ all sl ⟨dst,.slice t x (some l) none none,ty,pos,after,g⟩=some true)
    (h:bu q C all K rest (eF sl dst (vS r)) H):bu q C all K (⟨dst,.slice t x (some l) none none,ty,pos,after,g⟩::rest) sl H :=
  aJ _ B (by
    show oq C.P t (ev sl x) (some (ev sl l)) none none=_
    rw [F,hl];exact Pn A ⟨MZ (Dh o).1,(Dh o).1⟩ ⟨rfl,(Dh o).2⟩ o) h
theorem Im (B:C.P.underlying t=some .string) (I:ev sl x=vS s) (A:ev sl hi = .d (.int k' b)) (o:Mj s 0 b=some r) (F:aQ all sl ⟨dst,.slice t x none (some hi) none,ty,pos,after,g⟩=some true)
    (h:bu q C all K rest (eF sl dst (vS r)) H):bu q C all K (⟨dst,.slice t x none (some hi) none,ty,pos,after,g⟩::rest) sl H :=
  aJ _ F (by
    show oq C.P t (ev sl x) none (some (ev sl hi)) none=_
    rw [I,A];exact Pn B ⟨rfl,Int.le_refl _⟩ ⟨MZ (Dh o).2,(Dh o).2⟩ o) h
variable {α:Type} {enc:α->List D} {xs ys:List α} {e:TypeId} {sz:Nat}
theorem Sd (I:C.P.underlying t=some (.slice e)) (hs:szT C.P e=some sz) (o:∀y,(enc y).length=sz) {F hi:Option V} {l h:Int} (h1:si 0 F=some l.toNat) (h2:si xs.length hi=some h.toNat) (B:J4 xs l h=some ys):oq C.P t (vL enc xs) F hi none=some (vL enc ys):=by
  unfold J4 at B
  split at B
  · rename_i hc;simp only [so_]at B;subst B
    have A:=De (sz:=sz) o xs
    simp only [oq,I,hs,h1,List.length_map,h2]
    rw [if_pos ⟨hc.2.2.1,hc.2.2.2,A⟩]
    simp [List.map_drop,List.map_take]
  · cases B
theorem SN {l h:Int} (o:J4 xs l h=some ys):0<=l/\0<=h:=by
  unfold J4 at o;split at o
  · rename_i hc;exact⟨hc.1,hc.2.1⟩
  · cases o
theorem FI (B:C.P.underlying t=some (.slice e)) (hs:szT C.P e=some sz) (o:∀y,(enc y).length=sz) (F:ev sl x=vL enc xs) (I:ev sl hi = .d (.int k' b)) (A:J4 xs 0 b=some ys) (J:aQ all sl ⟨dst,.slice t x none (some hi) none,ty,pos,after,g⟩=some true)
    (h:bu q C all K rest (eF sl dst (vL enc ys)) H):bu q C all K (⟨dst,.slice t x none (some hi) none,ty,pos,after,g⟩::rest) sl H :=
  aJ _ J (by
    show oq C.P t (ev sl x) none (some (ev sl hi)) none=_
    rw [F,I];exact Sd B hs o rfl (MZ (SN A).2) A) h
end sub
theorem h_calln {f:Operand} {args:List Operand} {F:Array TypeId} {fn:FuncId} {caps o:List V} {r:V} {Sin:List Box} {Sout:List (Option Box)} (is:List Nat) (m:Nat) {l:List (Nm×Box)} (hc:FnM C.P fn o Sin r Sout)
    (hf:ev sl f = .fn fn caps) (hb:aI C.P fn=true) (hl:pF H is=some l) (N:Sin.map (λb=>b.ren (l.map (·.1)))=l.map (·.2)) (A:Sin.all (λb=>b.ok is.length)=true)
    (M:((args.map (ev sl)++caps).flatMap frz).all (λn=>false)=true) (Y:(args.map (ev sl)++caps).map co0=renL (l.map (·.1)) o) (I:okL is.length o=true) (R:okV Sout.length r=true)
    (B:Sout.length=is.length+m) (hi:is.Nodup) (W:okOut Sout.length Sout=true) (J:mutOut (Sout.drop is.length)=true)
    (Z:aQ all sl ⟨some d,.call ⟨.value f,args.toArray,F⟩,ty,pos,after,g⟩=some true)
    (v:(Nat->Nm)->V) (X:∀ν:Nat->Nm,ren (l.map (·.1)++(List.range m).map ν) r=v ν) (L:(Nat->Nm)->Hp)
    (O:∀ν:Nat->Nm,setH H (outs (l.map (·.1)++(List.range m).map ν) is (l.map (·.1)) Sout)++news (l.map (·.1)++(List.range m).map ν) ((List.range m).map ν) (Sout.drop is.length)=L ν)
    (h:∀ν:Nat->Nm,bu none C all K rest (upd sl d (v ν)) (L ν)) :
    bu none C all K (⟨some d,.call ⟨.value f,args.toArray,F⟩,ty,pos,after,g⟩::rest) sl H :=
  Ho is m hc hf hb hl N A M Y I R B hi W J Z (λν=>by rw [X ν,O ν];exact h ν)
theorem Sc {α:Type} {enc:α->List D} {ys zs:List α} {x y:Operand} {t' e e':TypeId} {sz bytes:Nat} {z:List V} (p:Nat) (X:q=none\/Nat.beq all.length (p+(rest.length+1))=true) (he:bO C.P t=some e) (I:bO C.P t'=some e') (hs:szT C.P e=some sz) (hz:zeroCells C.P e=some z) (R:z.length=sz) (o:0<sz) (W:iw C.P e=bytes) (Y:bytes<=100000)
    (J:∀y,(enc y).length=sz) (N:ev sl x = .nil) (hy:ev sl y=vL enc ys) (F:mK [] ys=some zs)
    (hw:aQ all sl ⟨some d,.call ⟨.builtin .append,#[x,y],#[t,t']⟩,ty,pos,after,g⟩=some true)
    (h:∀n':Nm,bu (uT q p [n'] true) C all K rest (upd sl d (gV n' sz zs)) (H++[(n',gB sz enc zs)])):bu q C all K (⟨some d,.call ⟨.builtin .append,#[x,y],#[t,t']⟩,ty,pos,after,g⟩::rest) sl H:=by
  unfold mK at F
  split at F
  case isFalse=>cases F
  rename_i Z
  simp only [so_,List.nil_append]at F
  subst F
  refine y8 rfl p [] X (λ_ _ _=>CE) (λm hm=>by cases hm) hw (λS tk K' ok ag O => ?_)
  have B:=De (sz:=sz) J ys
  have L:z.length=sz/\0<sz:=⟨R,o⟩
  have M:∀m,m<=1000000000->(2*m+192)*iw C.P e<=2 ^ 48/\m<=2 ^ 48:=λm hm=>by
    rw [W]
    have:=Nat.mul_le_mul (show 2*m+192<=2000000192 by omega) Y
    exact⟨by omega,by omega⟩
  have run:∀{A:Eff},lW C.P t t' S (ev sl x) (ev sl y) d tk=some A->K' A->opD C ⟨some d,.call ⟨.builtin .append,#[x,y],#[t,t']⟩,ty,pos,after,g⟩ sl S tk K':=λF O=>zg (by show (bif pM C.P t' then _ else _)=_;rw [z8 I,cond_false];exact F) O
  cases ys with
  | nil =>
    refine run (A:=⟨[],[],.nil⟩) ?_ (O _ (H++[((d,tk),none)]) _ (.inl rfl) ⟨by simp,by simp⟩ ?_ (h (d,tk)))
    · rw [N,hy]
      simp only [lW,he,yf I,hs,hz,if_pos L,mX,q9,B,if_true]
      rw [if_pos (M _ (by simp))]
      rfl
    · have:=ag.new ok rfl (.vec 0 [])
      refine⟨this.pos,by have:=this.nd;simpa using this,λp o => ?_⟩
      rcases List.mem_append.1 o with o|o
      · exact ag.tail.at_ p o
      · simp only [List.mem_singleton]at o
        subst o
        exact⟨(this.at_ ((d,tk),some (.vec 0 [])) (by simp)).1,λx N=>by cases N⟩
  | cons y0 ys =>
    refine run (A:=⟨[],[((d,tk),some (.vec sz ((y0::ys).map enc)))],.vs (d,tk) sz 0 (y0::ys).length⟩) ?_ (O _ (H++[((d,tk),gB sz enc (y0::ys))]) _ (.inl rfl) ⟨by simp,by simp⟩ (ag.new ok rfl _) (h (d,tk)))
    rw [N,hy]
    simp only [lW,he,yf I,hs,hz,if_pos L,mX,q9,B,if_true]
    rw [if_pos (M _ (by simpa using Z))]
    simp
theorem u7:∀(bs:List Box) (i j:Nat) (h:j<bs.length),(ru i bs)[j]? = some (ax (i+j),some bs[j])
  | b::bs,i,0,h=>rfl
  | b::bs,i,j+1,h=>by
    show (ru (i+1) bs)[j]? = _
    rw [u7 bs (i+1) j (by simpa using h)]
    simp [Nat.add_assoc,Nat.add_comm 1 j]
theorem Aa {k:Nat}:∀n,okN k n=true->yB ((List.range k).map ax) n=n:=by
  intro n h
  obtain ⟨i,hi,rfl⟩:=wy h
  rw [wC (by simpa using hi)];simp
theorem Ep {k:Nat} {b:Box} (h:b.ok k=true):b.ren ((List.range k).map ax)=b:=by
  cases b with
  | cells sz cs=>simp only [Box.ok]at h;simp only [Box.ren,yS _ k Aa _ h]
  | pmap es =>
    simp only [Box.ren,Box.pmap.injEq]
    exact (List.map_congr_left (λe o=>by rw [BU _ k Aa e.2 (List.all_eq_true.1 h e o)];rfl)).trans (List.map_id _)
  | iter cur left =>
    simp only [Box.ok,Bool.and_eq_true]at h
    simp only [Box.ren,Box.iter.injEq]
    refine⟨?_,(List.map_congr_left (λe o=>by rw [BU _ k Aa e.2 (List.all_eq_true.1 h.2 e o)];rfl)).trans (List.map_id _)⟩
    cases cur with
    | none=>rfl
    | some x=>simp only [Option.map_some,BU _ k Aa x.2 (by simpa using h.1)]
  | _=>rfl
theorem Fb {k:Nat} {S:Store}:∀{o:List Nm} {bs:List Box},(∀b∈bs,b.ok k=true)->(∀j (h1:j<o.length) (h2:j<bs.length),S o[j]=some bs[j])->fP S (fq ((List.range k).map ax) o (bs.map some))=S
  | [],[],_,_=>rfl
  | [],_::_,_,_=>rfl
  | _::_,[],_,_=>rfl
  | n::o,b::bs,hb,h=>by
    simp only [List.map_cons,fq,fP,Option.map_some]
    have e:supd S n (some (b.ren ((List.range k).map ax)))=S:=by
      rw [Ep (hb b (by simp))]
      funext m
      simp only [supd]
      split
      · rename_i hm;rw [hm];exact (h 0 (by simp) (by simp)).symm
      · rfl
    rw [e]
    exact Fb (λb A=>hb b (by simp [A])) (λj h1 h2=>h (j+1) (by simpa using h1) (by simpa using h2))
theorem Kq {f:Operand} {args:List Operand} {I:Array TypeId} {fn:FuncId} {caps o:List V} {r:V} {Sin:List Box} (hc:FnM C.P fn o Sin r (Sin.map some)) (hf:ev sl f = .fn fn caps) (hb:aI C.P fn=true)
    (J:(args.map (ev sl)).flatMap frz=[]) (ha:(args.map (ev sl)).map co0++caps=o) (hcap:caps.flatMap frz=[]/\caps.map co0=caps) (F:okL Sin.length o=true) (M:∀b∈Sin,b.ok Sin.length=true) (hm:∀b∈Sin,b.mut=true)
    (R:okV 0 r=true)
    (hw:aQ all sl ⟨some d,.call ⟨.value f,args.toArray,I⟩,ty,pos,after,g⟩=some true) (hH:H=ru 0 Sin) (h:bu none C all K rest (upd sl d r) H):bu none C all K (⟨some d,.call ⟨.value f,args.toArray,I⟩,ty,pos,after,g⟩::rest) sl H:=by
  subst hH
  refine Om hw (λS tk K' ok X hk=>wu hf ?_)
  have L:(args.map (ev sl)++caps).flatMap frz=[]:=by rw [List.flatMap_append,J,hcap.1];rfl
  have A:∀j (h:j<Sin.length),S (ax j)=some Sin[j]:=λj h=>by
    have:=u7 Sin 0 j h
    rw [Nat.zero_add]at this
    exact X.get this
  have B:(args.map (ev sl)++caps).map (co S)=renL ((List.range Sin.length).map ax) o:=by
    rw [Gm L,List.map_append,hcap.2,ha,yS _ _ Aa _ F]
  refine .inl ⟨hb,⟨[],(List.range Sin.length).map ax,o,Sin,r,Sin.map some,false⟩,?_,(λe=>by cases e),?_⟩
  · exact { does := hc
            args:=ArgsOK.of_map B
            okA:=by simp only [List.length_map,List.length_range];exact F
            nodup:=by
              refine List.Pairwise.map _ (λx y N e => ?_) List.nodup_range
              simp only [ax,Prod.mk.injEq,and_true]at e
              exact N (by omega)
            ins:=by
              refine yg (by simp) (λj h1 h2=>⟨by simp only [List.length_map,List.length_range];exact M _ (List.getElem_mem h2),?_⟩)
              rw [Ep (M _ (List.getElem_mem h2))]
              simp only [List.getElem_map,List.getElem_range]
              exact A j h2
            len:=by simp
            okR:=vJ (Nat.zero_le _) _ R
            okO:=by
              have:∀{l:List Box} {k:Nat},(∀b∈l,b.ok k=true)->okOut k (l.map some)=true:=by
                intro l k
                induction l with
                | nil=>exact λ_=>rfl
                | cons b l ih=>exact λh=>by simp only [List.map_cons,okOut,Bool.and_eq_true];exact⟨h b (by simp),ih (λx Z=>h x (by simp [Z]))⟩
              exact this (by simpa using M)
            mutN:=by
              show mutOut ((Sin.map some).drop Sin.length)=true
              rw [List.drop_of_length_le (by simp)];rfl
            roOK:=(λe=>by cases e),have_:=(λn J=>nomatch J),cov:=(λn W=>by rw [L]at W;cases W),dis:=(λn _ J=>nomatch J) }
  · have O:(Sin.map some).length-Sin.length=0:=by simp
    have Y:CallData.eff ⟨[],(List.range Sin.length).map ax,o,Sin,r,Sin.map some,false⟩ S d tk=⟨(((List.range Sin.length).map ax).zip Sin).map (λp=>(p.1,p.2.ren ((List.range Sin.length).map ax))),fq ((List.range Sin.length).map ax) ((List.range Sin.length).map ax) (Sin.map some),r⟩:=by
      simp only [CallData.eff,cond_false,CallData.names,O,nW,List.range_zero,List.map_nil,List.append_nil,iC,iB,List.nil_append,wB R]
    show K' (CallData.eff _ S d tk)
    rw [Y]
    refine hk _ (ru 0 Sin) ?_ h
    show AgR _ (fP S (fq _ ((List.range Sin.length).map ax) (Sin.map some))) tk rest
    rw [Fb (λb hb=>M b hb) (λj h1 h2=>by simp only [List.getElem_map,List.getElem_range];exact A j h2)]
    exact X.tail
theorem Tv {A:List ResultVar} {r:V} {e:Exit} {Sin:List Box} (F:∀b∈Sin,b.ok Sin.length=true) (I:e = .normal\/e = .ret) (vs:List V) (h1:Ic C sl (ru 0 Sin) A vs) (h2:vs.flatMap frz=[]) (J:GI (vs.map co0)=r) (M:okV 0 r=true):pI C A Sin.length r (Sin.map some) e sl (ru 0 Sin):=by
  have hc:∀{vs:List V},vs.flatMap frz=[]->CoL (ru 0 Sin) vs (vs.map co0):=by
    intro vs
    induction vs with
    | nil=>exact λ_ => .nil
    | cons v vs o=>exact λh => .cons (kX (vo h v (by simp)) rfl) (o (by simp only [List.flatMap_cons,List.append_eq_nil_iff]at h;exact h.2))
  have ho:∀{l:List Box} {k j:Nat} {H:Hp},(∀b∈l,b.ok k=true)->(∀i (h:i<l.length),H[j+i]? = some (ax (j+i),some l[i]))->Cm H ((List.range k).map ax) (List.range' j l.length) ((List.range' j l.length).map ax) (l.map some):=by
    intro l
    induction l with
    | nil=>exact λ_ _=>trivial
    | cons b l o =>
      intro k j H hb B
      simp only [List.length_cons,List.range'_succ,List.map_cons]
      refine⟨?_,o (λx L=>hb x (by simp [L])) (λi hi => ?_)⟩
      · have:=B 0 (by simp)
        simp only [Option.map_some,Ep (hb b (by simp))]
        exact this
      · have:=B (i+1) (by simpa using hi)
        rw [show j+1+i=j+(i+1) by omega]
        exact this
  refine⟨I,vs,_,List.range' 0 Sin.length,(List.range' 0 Sin.length).map ax,h1,hc h2,by rw [J,wB M],?_,List.nodup_range' ,λi hi=>by simp [hi]⟩
  have:=ho (k:=Sin.length) (j:=0) (H:=ru 0 Sin) F (λi hi=>by have:=u7 Sin 0 i hi;simpa using this)
  rw [List.range_eq_range']at this
  exact this
end
end Go.Eng

/-
  THE ENGINE: functions without a body; new slices that a call hands back; elements of a slice that began as nil.
-/
namespace Go.Eng
set_option linter.unusedSectionVars false
variable [DM]
set_option linter.unusedVariables false
set_option linter.unusedSimpArgs false
def zF (a b:ByteArray):Int:=Lib.compareBytes a.data.toList b.data.toList
theorem wh.two {G:Gh} {w:World} {o:List Value} {a b:V} (h:wh G w o [a,b]):∃x y,o=[x,y]/\RepV G w x a/\RepV G w y b:=by
 obtain ⟨hl,h⟩:=h
 match o,hl with
 | [x,y],_=>exact⟨x,y,rfl,h 0 (by simp) (by simp),h 1 (by simp) (by simp)⟩
theorem RepV.int_inv {G:Gh} {w:World} {v:Value} {k:IntKind} {n:Int} (h:RepV G w v (.d (.int k n))):v = .int k n:=by
 have:=h.d_inv
 generalize o:D.int k n=x at this
 cases this with
 | int k' A=>cases o;rfl
 | _=>cases o
theorem RepV.str_inv {G:Gh} {w:World} {v:Value} {s:ByteArray} (h:RepV G w v (vS s)):v = .string s:=by
 have:=h.d_inv
 generalize o:D.str s=x at this
 cases this with
 | str A=>cases o;rfl
 | _=>cases o
theorem TF {P : Program} {f : FuncId} {fn : Func} (hf : P.funcs[f]? = some fn) (h1 : (fn.name == "runtime.NumGoroutine") = false) (h2 : fn.body.isNone = true) (B : Extern.findNext fn = none) (I : Extern.find fn = some Extern.BytealgCompare.compare)
  (a b:ByteArray):ExtM P f [vS a,vS b] (.int .i64 (zF a b)):=by
 intro G w o h
 obtain ⟨x,y,rfl,F,A⟩:=h.two
 rw [F.str_inv,A.str_inv]
 refine⟨.int .i64 (zF a b),?_,.int _ _⟩
 show (callFunc f #[.string a,.string b]).run P w=_
 rw [run_callFunc_extern hf h1 h2 B I,Lib.run_compareString];rfl
theorem SH {Sin:List Box} {k:Nat} (h:Sin.all (λb=>b.ok k)=true):∀b∈Sin,b.ok k=true:=λb hb=>List.all_eq_true.1 h b hb
theorem PH {Sin:List Box} (h:Sin.all (λb=>b.mut)=true):∀b∈Sin,b.mut=true:=λb hb=>List.all_eq_true.1 h b hb
theorem fC {α:Type} {n:Nm} {sz:Nat} {xs ys:List α} (h:xs.length=ys.length):gV n sz xs=gV n sz ys:=by
 cases xs with
 | nil=>cases ys with
  | nil=>rfl
  | cons y ys=>simp at h
 | cons x xs=>cases ys with
  | nil=>simp at h
  | cons y ys=>simp only [gV,h]
theorem zR {α:Type} {n:Nm} {sz:Nat} {xs ys:List α} (h:xs.length=ys.length):vV n sz xs=vV n sz ys:=by simp only [vV,h]
def gO {α:Type} (sz:Nat) (enc:α->List D):List α->List (Option Box)
 | []=>[]
 | x::xs=>[some (.vec sz ((x::xs).map enc))]
theorem JS {α:Type} {r:List α} (h:((mK ([]:List α) []).bind λa=>some a)=some r):some ([]:List α)=some r:=by simpa [mK]using h
section
variable {C:Cfg} {sl:Nat->V} {H:Hp} {q:Qm} {all rest:List Oper} {K:(Nat->V)->Hp->Prop}
variable {dst:Option Tmp} {d:Nat} {t ty:TypeId} {pos:String} {after:Array Edge} {g:Option (Nat×Bool)}
theorem bT (k:Nat) {v v':V} (o:sl k=v) (e:v=v') (h:bu q C all K rest (upd sl k v') H):bu q C all K rest sl H:=by
 have:upd sl k v'=sl:=by
  funext j
  simp only [upd]
  cases hj:Nat.beq j k with
  | true=>rw [Nat.eq_of_beq_eq_true hj,o,e];rfl
  | false=>rfl
 rw [this]at h;exact h
theorem Kh (h:∀n:Nm,bu q C all K rest sl (H++[(n,none)])):bu q C all K rest sl H:=λS tk ok A=>by
 have B:∃m:Nat,∀p∈H,p.1.1<m:=by
  clear h A
  induction H with
  | nil=>exact⟨0,λp o=>by cases o⟩
  | cons x H I =>
   obtain ⟨m,hm⟩:=I
   refine⟨max m (x.1.1+1),λp o => ?_⟩
   rcases List.mem_cons.1 o with rfl|o
   ·omega
   ·have:=hm p o;omega
 obtain ⟨m,hm⟩:=B
 refine h (m,0) S tk ok ⟨A.pos,?_,λp o => ?_⟩
 ·rw [List.map_append,List.nodup_append]
  refine⟨A.nd,by simp,λa J b hb e => ?_⟩
  simp only [List.map_cons,List.map_nil,List.mem_singleton]at hb
  obtain ⟨p,o,rfl⟩:=List.mem_map.1 J
  have:=hm p o
  rw [e,hb]at this
  exact Nat.lt_irrefl _ this
 ·rcases List.mem_append.1 o with o|o
  ·exact A.at_ p o
  ·simp only [List.mem_singleton]at o
   subst o
   exact⟨.inl A.pos,λx F=>by cases F⟩
theorem OC {α:Type} {enc:α->List D} {sz:Nat} {xs:List α} {f:Operand} {args:List Operand} {M:Array TypeId} {fn:FuncId} {caps A:List V} {Sin outs:List Box} (is:List Nat) {l:List (Nm×Box)}
  (hc:FnM C.P fn A Sin (gV (ax is.length) sz xs) (outs.map some++gO sz enc xs))
  (hf:ev sl f = .fn fn caps) (hb:aI C.P fn=true) (hl:pF H is=some l) (R:Sin.map (λb=>b.ren (l.map (·.1)))=l.map (·.2)) (B:Sin.all (λb=>b.ok is.length)=true)
  (Z:((args.map (ev sl)++caps).flatMap frz).all (λn=>false)=true) (X:(args.map (ev sl)++caps).map co0=renL (l.map (·.1)) A) (L:okL is.length A=true)
  (o:outs.length=is.length) (hi:is.Nodup) (W:outs.all (λb=>b.ok 0)=true)
  (hw:aQ all sl ⟨some d,.call ⟨.value f,args.toArray,M⟩,ty,pos,after,g⟩=some true)
  (H':Hp) (Y:∀ν,setH H (Eng.outs ν is (l.map (·.1)) (outs.map some))=H')
  (h:∀n:Nm,bu none C all K rest (upd sl d (gV n sz xs)) (H'++[(n,gB sz enc xs)])) :
  bu none C all K (⟨some d,.call ⟨.value f,args.toArray,M⟩,ty,pos,after,g⟩::rest) sl H:=by
 have O:=(pq hl).1
 have F:∀{k:Nat} {os:List Box},os.all (λb=>b.ok 0)=true->okOut k (os.map some)=true:=by
  intro k os
  induction os with
  | nil=>exact λ_=>rfl
  | cons b os J =>
   intro h
   simp only [List.all_cons,Bool.and_eq_true]at h
   simp only [List.map_cons,okOut,Bool.and_eq_true]
   exact⟨Box.ok_mono (Nat.zero_le _) h.1,J h.2⟩
 cases xs with
 | nil =>
  have N:FnM C.P fn A Sin .nil (outs.map some):=by simpa [gO,gV]using hc
  refine Ho is 0 N hf hb hl R B Z X L rfl (by simp [o]) hi (F W) (by rw [List.drop_of_length_le (by simp [o])];rfl) hw (λν => ?_)
  simp only [List.range_zero,List.map_nil,List.append_nil,news,Y]
  exact Kh (λn=>h n)
 | cons x xs =>
  refine Ho (r:=gV (ax is.length) sz (x::xs)) (Sout:=outs.map some++[some (.vec sz ((x::xs).map enc))]) is 1 hc hf hb hl R B Z X L ?_ (by simp [o]) hi ?_ ?_ hw (λν => ?_)
  ·exact Ti (by simp [o]) _
  ·have:∀{k:Nat} {a b:List (Option Box)},okOut k a=true->okOut k b=true->okOut k (a++b)=true:=by
    intro k a b
    induction a with
    | nil=>exact λ_ h=>h
    | cons y a J =>
     intro h1 h2
     cases y with
     | none=>exact J h1 h2
     | some y=>simp only [List.cons_append,okOut,Bool.and_eq_true]at h1 ⊢;exact⟨h1.1,J h1.2 h2⟩
   exact this (F W) rfl
  ·rw [List.drop_append_of_le_length (by simp [o]),List.drop_of_length_le (by simp [o])];rfl
  ·have e1:ren (l.map (·.1)++(List.range 1).map ν) (gV (ax is.length) sz (x::xs))=gV (ν 0) sz (x::xs):=by
    rw [SI,yQ]
    simp [O]
   have e2:∀ν,Eng.outs ν is (l.map (·.1)) (outs.map some++[some (.vec sz ((x::xs).map enc))])=Eng.outs ν is (l.map (·.1)) (outs.map some):=by
    intro ν
    have:∀(is:List Nat) (I:List Nm) (a b:List (Option Box)),is.length=a.length->Eng.outs ν is I (a++b)=Eng.outs ν is I a:=by
     intro is
     induction is with
     | nil=>intro I a b h;cases a with
      | nil=>cases b <;> rfl
      | cons _ _=>simp at h
     | cons i is J=>intro I a b h;cases a with
      | nil=>simp at h
      | cons y a=>cases I with
       | nil=>rfl
       | cons n I=>simp only [List.cons_append,Eng.outs];rw [J I a b (by simpa using h)]
    exact this _ _ _ _ (by simp [o])
   rw [e1,e2,Y]
   rw [List.drop_append_of_le_length (by simp [o]),List.drop_of_length_le (by simp [o])]
   exact h (ν 0)
theorem xg {α:Type} {xs:List α} {x i:Operand} {k:IntKind} {n:Int} {nm:Nm} {size:Nat} (A:(bO C.P t).bind (szT C.P)=some size) (B:ev sl x=gV nm size xs) (hi:ev sl i = .d (.int k n)) (o:0<=n) (h1:n.toNat<xs.length)
  (F:aQ all sl ⟨dst,.indexAddr t x i,ty,pos,after,g⟩=some true) (h:bu q C all K rest (eF sl dst (.ref nm (0+n.toNat) 0)) H):bu q C all K (⟨dst,.indexAddr t x i,ty,pos,after,g⟩::rest) sl H:=by
 cases xs with
 | nil=>simp at h1
 | cons y ys=>exact Bz A B hi o h1 F h
theorem jm {α:Type} {enc:α->List D} {xs:List α} {y:α} {x:Operand} {size:Nat} {agg:Bool} {n:Nm} {i j sz:Nat} (p k:Nat) (A:q=none\/Nat.beq all.length (p+(rest.length+1))=true) (hf:∀S tk,AgR H S tk (⟨dst,.load t x,ty,pos,after,g⟩::rest)->okQ q all p [n] false) (hs:szT C.P t=some size) (I:bW C.P t=agg) (B:ev sl x = .ref n i j) (J:H[k]? = some (n,gB sz enc xs)) (o:xs[i]? = some y)
  (v:V) (F:rdD agg size ((enc y).drop j)=some v)
  (L:aQ all sl ⟨dst,.load t x,ty,pos,after,g⟩=some true) (h:bu (uT q p [n] false) C all K rest (eF sl dst v) H):bu q C all K (⟨dst,.load t x,ty,pos,after,g⟩::rest) sl H:=by
 cases xs with
 | nil=>simp at o
 | cons z zs=>exact F8 p k A hf hs I B J o v F L h
theorem pR {α:Type} {enc:α->List D} {xs:List α} {e:α} {x y:Operand} {size:Nat} {n:Nm} {i j sz:Nat} (p:Nat) (A:q=none\/Nat.beq all.length (p+(rest.length+1))=true) (hf:∀S tk,AgR H S tk (⟨dst,.store t x y,ty,pos,after,g⟩::rest)->okQ q all p [n] true) (k:Nat) (hs:szT C.P t=some size) (B:ev sl x = .ref n i j) (I:H[k]? = some (n,gB sz enc xs)) (o:xs[i]? = some e) (e':α) (F:stD size (enc e) j (ev sl y)=some (enc e'))
  (J:aQ all sl ⟨dst,.store t x y,ty,pos,after,g⟩=some true) (h:bu (uT q p [n] true) C all K rest (eF sl dst .none) (H.set k (n,gB sz enc (xs.set i e')))):bu q C all K (⟨dst,.store t x y,ty,pos,after,g⟩::rest) sl H:=by
 cases xs with
 | nil=>simp at o
 | cons z zs =>
  refine QW p A hf k hs B I o e' F J ?_
  have:gB sz enc ((z::zs).set i e')=some (bV sz enc ((z::zs).set i e')):=by cases i <;> rfl
  rw [this]at h;exact h
theorem NJ {α:Type} {enc:α->List D} {sz t:Nat} {xs:List α} {n:Nm} {outs:List Box} {e:Exit} (I:e = .normal\/e = .ret) (j:Nat) (h1:sl t=gV n sz xs) (h2:H[j]? = some (n,gB sz enc xs)) (hj:Nat.ble outs.length j=true) (M:outs.all (λb=>b.ok 0)=true)
  (R:H.take outs.length=ru 0 outs):pI C [.tmp t] outs.length (gV (ax outs.length) sz xs) (outs.map some++gO sz enc xs) e sl H:=by
 have hj:=Nat.le_of_ble_eq_true hj
 have o:∀i (h:i<outs.length),H[i]? = some (ax i,some outs[i]):=λi hi=>by
  have:=u7 outs 0 i hi
  rw [Nat.zero_add,<- R,List.getElem?_take,if_pos hi]at this
  exact this
 have ho:∀{ν:List Nm} {l:List Box} {j:Nat} {B:List Nat} {F:List Nm} {bs:List (Option Box)},(∀b∈l,b.ok 0=true)->(∀i (h:i<l.length),H[j+i]? = some (ax (j+i),some l[i]))->Cm H ν B F bs->Cm H ν (List.range' j l.length++B) ((List.range' j l.length).map ax++F) (l.map some++bs):=by
  intro ν l
  induction l with
  | nil=>exact λ_ _ h=>h
  | cons b l N =>
   intro j B F bs hb J W
   simp only [List.length_cons,List.range'_succ,List.map_cons,List.cons_append]
   refine⟨?_,N (λx L=>hb x (by simp [L])) (λi hi => ?_) W⟩
   ·have:=J 0 (by simp)
    simp only [Option.map_some,y9 (hb b (by simp))]
    exact this
   ·have:=J (i+1) (by simpa using hi)
    rw [show j+1+i=j+(i+1) by omega]
    exact this
 have A:∀b∈outs,b.ok 0=true:=λb hb=>List.all_eq_true.1 M b hb
 cases xs with
 | nil =>
  refine⟨I,[.nil],[.nil],List.range' 0 outs.length++[],(List.range' 0 outs.length).map ax++[],⟨h1,trivial⟩,.cons (.inl rfl) .nil,rfl,ho A (λi hi=>by rw [Nat.zero_add];exact o i hi) trivial,by simp [List.nodup_range'],λi hi=>by simp [hi]⟩
 | cons x xs =>
  refine⟨I,[.vs n sz 0 (x::xs).length],[.vs n sz 0 (x::xs).length],List.range' 0 outs.length++[j],(List.range' 0 outs.length).map ax++[n],⟨h1,trivial⟩,.cons (.inl rfl) .nil,?_,
   ho A (λi hi=>by rw [Nat.zero_add];exact o i hi) ⟨h2,trivial⟩,?_,λi hi=>by rw [List.getElem?_append_left (by simpa using hi)];simp [hi]⟩
  ·show V.vs n sz 0 (x::xs).length=ren _ (.vs (ax outs.length) sz 0 (x::xs).length)
   simp only [ren]
   rw [yQ]
   rw [List.getElem?_append_right (by simp)];simp
  ·rw [List.nodup_append]
   refine⟨List.nodup_range',by simp,λa O b hb => ?_⟩
   simp only [List.mem_singleton]at hb
   simp only [List.mem_range'_1]at O
   omega
end
section
variable {C:Cfg} {sl:Nat->V} {H:Hp} {q:Qm} {all rest:List Oper} {K:(Nat->V)->Hp->Prop} {Q:QH} {c:Code}
variable {dst:Option Tmp} {d:Nat} {t ty:TypeId} {pos:String} {after:Array Edge} {g:Option (Nat×Bool)}
theorem aa {op:Op} (v:V) (h:bu q C all K rest (eF sl dst v) H) (o:EW C sl op=some v:=by exact rfl):bu q C all K (⟨dst,op,ty,pos,after,none⟩::rest) sl H:=aJ v wz o h
theorem af {j:Nat} {o b:Bool} {A:Nat} {op:Op} (h:bu q C all K rest (eF sl dst .none) H) (h1:(all[j]?).bind (·.dst)=some A:=by exact rfl) (h2:sl A = .d (.bool b):=by exact rfl) (B:(b==o)=false:=by exact rfl) :
  bu q C all K (⟨dst,op,ty,pos,after,some (j,o)⟩::rest) sl H:=dI (wg h1 h2 B) h
theorem aR (h:List (Nat×V)) (o:Hp) (h1:wH C c (I5 (Mh (λ_:Unit=>h) (λ_=>o) (λ_=>True)) Q) sl H) (h2:∀x:Unit,True->∀sl' A,Eng.pick h sl'=h->Eng.pre o A->Q .normal sl' A):wH C c Q sl H :=
 kT (λ_:Unit=>h) (λ_=>o) (λ_=>True) h1 h2
theorem ai {id:Nat} {ops:List Oper} {b:Code} (h:bu none C ops (λsl H=>wH C b Q sl H) ops sl H):wH C (.seq (.region id ops.toArray false) b) Q sl H:=ak (au h)
theorem O3 {h:List ResultVar} {r:V} {e:Exit} (vs:List V) (h1:Ic C sl H h vs) (A:e = .normal\/e = .ret) (h2:(vs.flatMap frz).all (λ_=>false)=true:=by exact rfl) (o:GI (vs.map co0)=r:=by exact rfl) (B:okV 0 r=true:=by exact rfl):pI C h 0 r [] e sl H:=fin0 A vs h1 h2 o B
theorem aM {h:List ResultVar} {r:V} (vs:List V) (h1:Ic C sl H h vs) (h2:(vs.flatMap frz).all (λ_=>false)=true:=by exact rfl) (o:GI (vs.map co0)=r:=by exact rfl) (A:okV 0 r=true:=by exact rfl):pI C h 0 r [] .ret sl H:=fin0 (.inr rfl) vs h1 h2 o A
theorem eU {id:Nat} {σ ρ:Type} (h:σ->List (Nat×V)) (B:σ->Hp) (A:Nat->σ->List (Nat×V)) (body:σ->Option (Ctl σ ρ)) (o:Ctl σ ρ) (n:Nat) (F:σ) (hj:iterN body n F=some o) (J:Eng.pick (A n F) sl=A n F) (L:Eng.pre (B F) H)
  (h1:∀x:Nat×σ,iterN body x.1 x.2=some o->wH C c (LK (λp:Nat×σ=>A p.1 p.2) (λp=>B p.2) (λp=>iterN body p.1 p.2=some o) (λp=>p.1) x (PY id (I5 (Mh h B (λp=>o = .go p)) Q))) (envS (A x.1 x.2)) (B x.2))
  (h2:∀x,o = .go x->∀sl' I,Eng.pick (h x) sl'=h x->Eng.pre (B x) I->Q .normal sl' I):wH C (.block id (.loop c)) Q sl H :=
 kT h B (λp=>o = .go p) (aK (FY (β:=Nat×σ) (λp=>A p.1 p.2) (λp=>B p.2) (λp=>iterN body p.1 p.2=some o) (λp=>p.1) (n,F) hj J L h1)) h2
theorem Ni {id:Nat} {σ ρ N:Type} (h:(σ×N)->List (Nat×V)) (B:(σ×N)->Hp) (A:Nat->(σ×N)->List (Nat×V)) (body:σ->Option (Ctl σ ρ)) (o:Ctl σ ρ) (n:Nat) (F:(σ×N)) (hj:iterN body n F.1=some o) (J:Eng.pick (A n F) sl=A n F) (L:Eng.pre (B F) H)
  (h1:∀x:Nat×(σ×N),iterN body x.1 x.2.1=some o->wH C c (LK (λp:Nat×(σ×N)=>A p.1 p.2) (λp=>B p.2) (λp=>iterN body p.1 p.2.1=some o) (λp=>p.1) x (PY id (I5 (Mh h B (λp=>o = .go p.1)) Q))) (envS (A x.1 x.2)) (B x.2))
  (h2:∀x,o = .go x.1->∀sl' I,Eng.pick (h x) sl'=h x->Eng.pre (B x) I->Q .normal sl' I):wH C (.block id (.loop c)) Q sl H :=
 kT h B (λp=>o = .go p.1) (aK (FY (β:=Nat×(σ×N)) (λp=>A p.1 p.2) (λp=>B p.2) (λp=>iterN body p.1 p.2.1=some o) (λp=>p.1) (n,F) hj J L h1)) h2
theorem bH {id:Nat} {σ ρ α:Type} (h:σ->List (Nat×V)) (B:σ->Hp) (A:Nat->σ->List (Nat×V)) (body:Nat->α->σ->Option (Ctl σ ρ)) (o:Ctl σ ρ) (xs:List α) (F:σ) (hj:forR body xs 0 F=some o) (J:Eng.pick (A 0 F) sl=A 0 F) (L:Eng.pre (B F) H)
  (h1:∀x:Nat×List α×σ,(forR body x.2.1 x.1 x.2.2=some o/\xs.drop x.1=x.2.1)->wH C c (LK (λp:Nat×List α×σ=>A p.1 p.2.2) (λp=>B p.2.2) (λp=>forR body p.2.1 p.1 p.2.2=some o/\xs.drop p.1=p.2.1) (λp=>p.2.1.length) x (PY id (I5 (Mh h B (λp=>o = .go p)) Q))) (envS (A x.1 x.2.2)) (B x.2.2))
  (h2:∀x,o = .go x->∀sl' I,Eng.pick (h x) sl'=h x->Eng.pre (B x) I->Q .normal sl' I):wH C (.block id (.loop c)) Q sl H :=
 kT h B (λp=>o = .go p) (aK (FY (β:=Nat×List α×σ) (λp=>A p.1 p.2.2) (λp=>B p.2.2) (λp=>forR body p.2.1 p.1 p.2.2=some o/\xs.drop p.1=p.2.1) (λp=>p.2.1.length) (0,xs,F) ⟨hj,rfl⟩ J L h1)) h2
theorem gq {id:Nat} {σ ρ N α:Type} (h:(σ×N)->List (Nat×V)) (B:(σ×N)->Hp) (A:Nat->(σ×N)->List (Nat×V)) (body:Nat->α->σ->Option (Ctl σ ρ)) (o:Ctl σ ρ) (xs:List α) (F:(σ×N)) (hj:forR body xs 0 F.1=some o) (J:Eng.pick (A 0 F) sl=A 0 F) (L:Eng.pre (B F) H)
  (h1:∀x:Nat×List α×(σ×N),(forR body x.2.1 x.1 x.2.2.1=some o/\xs.drop x.1=x.2.1)->wH C c (LK (λp:Nat×List α×(σ×N)=>A p.1 p.2.2) (λp=>B p.2.2) (λp=>forR body p.2.1 p.1 p.2.2.1=some o/\xs.drop p.1=p.2.1) (λp=>p.2.1.length) x (PY id (I5 (Mh h B (λp=>o = .go p.1)) Q))) (envS (A x.1 x.2.2)) (B x.2.2))
  (h2:∀x,o = .go x.1->∀sl' I,Eng.pick (h x) sl'=h x->Eng.pre (B x) I->Q .normal sl' I):wH C (.block id (.loop c)) Q sl H :=
 kT h B (λp=>o = .go p.1) (aK (FY (β:=Nat×List α×(σ×N)) (λp=>A p.1 p.2.2) (λp=>B p.2.2) (λp=>forR body p.2.1 p.1 p.2.2.1=some o/\xs.drop p.1=p.2.1) (λp=>p.2.1.length) (0,xs,F) ⟨hj,rfl⟩ J L h1)) h2
end
end Go.Eng

