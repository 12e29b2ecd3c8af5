/-
  The engine: what the machine does to data, shown once for all programs (part 3).
-/
import Derived.Test.YtnfojnnfidnikaeGreatDoorEng2
import Derived.Tactics
import Derived.KernelRfl
import Derived.IntWalk
import Derived.Lib.Bytealg
/-
  THE ENGINE: a function's body as a condition on data ('wpD'), and that the machine meets it.
-/
namespace Go.Eng
set_option linter.unusedSectionVars false
variable [DM]
def mq:List Oper->Bool
  | []=>true
  | o::r=>(match o.dst with
    | some d=>r.all λf=>match f.dst with
      | some h => !(Nat.beq d h)
      | none=>true
    | none=>true)&&mq r
def Ch (C:Cfg) (ops:List Oper):Bool:=ops.all (Ad C)&&mq ops
def envS:List (Nat×V)->Nat->V
  | [],_ => .any
  | (k,v)::l,j=>bif Nat.beq j k then v else envS l j
theorem Ng (sl:Nat->V):∀(ks:List Nat) (j:Nat),envS (ks.map λk=>(k,sl k)) j=sl j\/envS (ks.map λk=>(k,sl k)) j = .any
  | [],_ => .inr rfl
  | k::ks,j=>by
    simp only [List.map_cons,envS]
    cases h:Nat.beq j k with
    | true=>rw [Nat.eq_of_beq_eq_true h];exact .inl rfl
    | false=>exact Ng sl ks j
inductive Gst:St->St->Prop
  | refl (σ:St):Gst σ σ
  | forget (σ:St) (ks:List Nat):Gst σ ⟨envS (ks.map λk=>(k,σ.slots k)),σ.store,σ.tick⟩
  | froz (σ:St) (n:Nm):Gst σ ⟨σ.slots,freezeAll σ.store [n],σ.tick⟩
  | co (σ:St) (k:Nat):Gst σ ⟨upd σ.slots k (co σ.store (σ.slots k)),σ.store,σ.tick⟩
  | coB (σ:St) (n:Nm) (sz:Nat) (cs:List V) (h:σ.store n=some (.cells sz cs)):Gst σ ⟨σ.slots,supd σ.store n (some (.cells sz (cs.map (co1 σ.store)))),σ.tick⟩
  | coM (σ:St) (n:Nm) (sz:Nat) (cs cs':List V) (h:σ.store n=some (.cells sz cs)) (hl:cs'.length=cs.length) (hc:∀j (h1:j<cs'.length) (h2:j<cs.length),cs'[j]=cs[j]\/cs'[j]=co1 σ.store cs[j]):Gst σ ⟨σ.slots,supd σ.store n (some (.cells sz cs')),σ.tick⟩
  | shr (σ:St) (n:Nm) (sz m:Nat) (xs:List (List D)) (h:σ.store n=some (.vec sz xs)):Gst σ ⟨σ.slots,supd σ.store n (some (.vec sz (xs.take m))),σ.tick⟩
  | pm (σ:St) (n:Nm) (h:σ.store n=some (.map [])):Gst σ ⟨σ.slots,supd σ.store n (some (.pmap [])),σ.tick⟩
  | trans {a b c:St}:Gst a b->Gst b c->Gst a c
def FN (C:Cfg) (all:List Oper) (tk:Nat) (K:(Nat->V)->Store->Prop):List Oper->(Nat->V)->Store->Prop
  | [],sl,S=>K sl S
  | o::rest,sl0,f=>∃sl S,Gst ⟨sl0,f,tk⟩ ⟨sl,S,tk⟩/\match aQ all sl o with
    | some true=>(opD C o sl S tk λA=>FN C all tk K rest (dI sl o.dst A.val) (fu S A.upd))\/QX C o sl S tk λA=>FN C all tk K rest (dI sl o.dst A.val) (fu S A.upd)
    | some false=>FN C all tk K rest (dI sl o.dst .none) S
    | none=>False
def Gn (all:List Oper) (k:Nat) (A:Eff):List (Nat×Eff)->Prop
  | []=>True
  | (j,B)::L=>(Dis A B\/DV all 4 j k=true)/\Gn all k A L
def opsL (C:Cfg) (all:List Oper) (tk:Nat) (K:(Nat->V)->Store->Prop):List Oper->Nat->List (Nat×Eff)->(Nat->V)->Store->Prop
  | [],_,_,sl,S=>K sl S
  | o::rest,k,L,sl,S=>match aQ all sl o with
    | some true=>opD C o sl S tk λA=>Gn all k A L/\opsL C all tk K rest (k+1) ((k,A)::L) (dI sl o.dst A.val) (fu S A.upd)
    | some false=>opsL C all tk K rest (k+1) L (dI sl o.dst .none) S
    | none=>False
def PO (C:Cfg) (ops:Array Oper) (f:Bool) (σ:St) (K:St->Prop):Prop :=
  Ch C ops.toList=true /\
  bif f then (C.P.follows .mixedOrders=true/\Region.lexB .any ops=true/\opsL C ops.toList σ.tick (λsl S=>K ⟨sl,S,σ.tick+1⟩) ops.toList 0 [] σ.slots σ.store)
  else FN C ops.toList σ.tick (λsl S=>K ⟨sl,S,σ.tick+1⟩) ops.toList σ.slots σ.store
def condD (v:V) (x y:Prop):Prop:=∃t,v = .d (.bool t)/\(t=true->x)/\(t=false->y)
def seqQ (K:St->Prop) (Q:Exit->St->Prop):Exit->St->Prop
  | .normal,σ=>K σ
  | e,σ=>Q e σ
def LB (id:Nat) (Q:Exit->St->Prop):Exit->St->Prop
  | .exit f,σ=>bif Nat.beq f id then Q .normal σ else Q (.exit f) σ
  | e,σ=>Q e σ
def wpD (C:Cfg):Code->(Exit->St->Prop)->St->Prop
  | .skip,Q,σ=>Q .normal σ
  | .seq a b,Q,σ=>wpD C a (seqQ (λσ=>∃f,Gst σ f/\wpD C b Q f) Q) σ
  | .cond c x y,Q,σ=>condD (ev σ.slots c) (∃f,Gst σ f/\wpD C x Q f) (∃f,Gst σ f/\wpD C y Q f)
  | .block id c,Q,σ=>wpD C c (LB id Q) σ
  | .exit id,Q,σ=>Q (.exit id) σ
  | .ret,Q,σ=>Q .ret σ
  | .loop c,Q,σ=>∃(I:St->Prop) (m:St->Nat),(∃A,Gst σ A/\I A)/\∀f,I f->wpD C c (seqQ (λj=>∃o,Gst j o/\I o/\m o<m f) Q) f
  | .region _ ops h,Q,σ=>PO C ops h σ (Q .normal)
  | _,_,_=>False
def K6 (C:Cfg) (E:Env) (G:Gh) (w:World) (a:Act) (σ:St):Prop:=Reg C E G w a σ.slots σ.store σ.tick (λ_=>False)
section
variable {C:Cfg} {E:Env}
theorem wK:∀{l:List Oper} (_:mq l=true) (i j:Nat) (o f:Oper) (d:Nat),l[i]? = some o->l[j]? = some f->o.dst=some d->f.dst=some d->i=j
  | [],_,i,j,o,f,d,h1,_,_,_=>by simp at h1
  | x::l,h,0,0,o,f,d,_,_,_,_=>rfl
  | x::l,h,0,j+1,o,f,d,h1,h2,B,F=>by
    simp only [List.getElem?_cons_zero,so_]at h1
    subst h1
    simp only [mq,B,Bool.and_eq_true]at h
    have A:=List.all_eq_true.1 h.1 f (List.mem_of_getElem? (by simpa using h2))
    simp only [F]at A
    have:Nat.beq d d=true:=Nat.beq_refl d
    rw [this]at A;cases A
  | x::l,h,i+1,0,o,f,d,h1,h2,B,F=>by
    simp only [List.getElem?_cons_zero,so_]at h2
    subst h2
    simp only [mq,F,Bool.and_eq_true]at h
    have A:=List.all_eq_true.1 h.1 o (List.mem_of_getElem? (by simpa using h1))
    simp only [B]at A
    have:Nat.beq d d=true:=Nat.beq_refl d
    rw [this]at A;cases A
  | x::l,h,i+1,j+1,o,f,d,h1,h2,B,F=>by
    simp only [mq,Bool.and_eq_true]at h
    rw [wK h.2 i j o f d (by simpa using h1) (by simpa using h2) B F]
theorem Bv {ops:Array Oper} (h:Ch C ops.toList=true) {j:Nat} {o:Oper} (ho:ops[j]? = some o):Ad C o=true:=by
  simp only [Ch,Bool.and_eq_true]at h
  exact List.all_eq_true.1 h.1 o (List.mem_of_getElem? (by simpa using ho))
theorem qj {o:Oper} (h:Ad C o=true) {d:Nat} (f:o.dst=some d):d<C.n/\d<100000:=by
  simp only [Ad,f,Bool.and_eq_true]at h
  exact⟨by simpa [Nat.blt_eq]using h.1,by simpa [Nat.blt_eq]using h.2⟩
def Ql (pre:List Oper) (n:Nat):Prop:=∃o∈pre,o.dst=some (n % 100000)
theorem Gst.okR {U:Nat->Prop} {σ σ':St} (h:Gst σ σ'):∀{G:Gh} {w:World} {a:Act},Reg C E G w a σ.slots σ.store σ.tick U->∃G',Reg C E G' w a σ'.slots σ'.store σ'.tick U:=by
  induction h with
  | refl σ=>exact λhc=>⟨_,hc⟩
  | forget σ ks =>
    intro G w a hc
    have ht:∀i,RepV G w (a.tmps.getD i undef) (envS (ks.map λk=>(k,σ.slots k)) i):=λi=>by
      rcases Ng σ.slots ks i with e|e
      · rw [e];exact hc.tm i
      · rw [e];exact .any _
    exact⟨G,{ hc with tm:=ht }⟩
  | froz σ n =>
    intro G w a hc
    obtain ⟨G',i,e⟩:=rZ [n] hc.inv
    exact⟨G',{ sz:=hc.sz,df:=hc.df,tm:=λj=>(hc.tm j).ext e,inv:=i }⟩
  | co σ k =>
    intro G w a hc
    have ht:∀i,RepV G w (a.tmps.getD i undef) (upd σ.slots k (Eng.co σ.store (σ.slots k)) i):=λi=>by
      simp only [upd]
      cases h:Nat.beq i k with
      | true=>rw [Nat.eq_of_beq_eq_true h];exact KO hc.inv (hc.tm k)
      | false=>exact hc.tm i
    exact⟨G,{ hc with tm:=ht }⟩
  | coB σ n sz cs h =>
    intro G w a hc
    refine⟨G,{ sz:=hc.sz,df:=hc.df,tm:=hc.tm,inv := { hc.inv with box:=λm bx f => ?_,one:=λY n2 b1 b2 b o s1 o' s2 h1 h2 F W Z => ?_ } }⟩
    · by_cases e:m=n
      · subst e
        simp only [supd,if_true,so_]at f
        subst f
        obtain ⟨b,o,A,I,J,f⟩:=hc.inv.box m _ h
        refine⟨b,o,A,I,?_,λ_=>f rfl⟩
        have B:Stands G w (.cells sz cs) b o A:=J
        have:Stands G w (.cells sz (cs.map (co1 σ.store))) b o A :=
          { sz:=B.sz,even:=trivial,room:=by have:=B.room;simp only [Box.all,List.length_map]at this ⊢;exact this
            cell:=λj hj=>by
              have R:j<cs.length:=by simpa [Box.all]using hj
              obtain ⟨u,h1,h2,F⟩:=B.cell j R
              refine⟨u,h1,h2,?_⟩
              simp only [Box.all,List.getElem_map]
              exact Gi hc.inv F
            free:=B.free,froz:=λf=>by simp [Box.mut]at f,cel:=B.cel }
        exact this
      · simp only [supd,if_neg e]at f
        exact hc.inv.box m bx f
    · have old:∀m bx,supd σ.store n (some (.cells sz (cs.map (co1 σ.store)))) m=some bx->∃bx',σ.store m=some bx'/\bx'.mut=bx.mut:=λm bx f=>by
        by_cases e:m=n
        · subst e
          simp only [supd,if_true,so_]at f
          subst f
          exact⟨_,h,rfl⟩
        · simp only [supd,if_neg e]at f
          exact⟨bx,f,rfl⟩
      obtain ⟨c1,M,m1⟩:=old _ _ h1
      obtain ⟨c2,N,_⟩:=old _ _ h2
      exact hc.inv.one Y n2 c1 c2 b o s1 o' s2 M N (m1.trans F) W Z
  | shr σ n sz m xs h =>
    intro G w a hc
    refine⟨G,{ sz:=hc.sz,df:=hc.df,tm:=hc.tm,inv := { hc.inv with box:=λT bx f => ?_,one:=λY n2 b1 b2 b o s1 o' s2 h1 h2 F W Z => ?_ } }⟩
    · by_cases e:T=n
      · subst e
        simp only [supd,if_true,so_]at f
        subst f
        obtain ⟨b,o,A,I,J,f⟩:=hc.inv.box T _ h
        refine⟨b,o,A,I,?_,λ_=>f rfl⟩
        have B:Stands G w (.vec sz xs) b o A:=J
        have hal:(Box.vec sz xs).all=(Box.vec sz (xs.take m)).all++(Box.vec sz (xs.drop m)).all:=by
          simp only [Box.all]
          rw [<- List.flatten_append,<- List.map_append,List.take_append_drop]
        have L:(Box.vec sz (xs.take m)).all.length<=(Box.vec sz xs).all.length:=by rw [hal,List.length_append];omega
        have:Stands G w (.vec sz (xs.take m)) b o A :=
          { sz:=B.sz,even:=λx hx=>B.even x (List.mem_of_mem_take hx),room:=Nat.le_trans (Nat.add_le_add_left L o) B.room
            cell:=λj hj=>by
              obtain ⟨u,h1,h2,F⟩:=B.cell j (Nat.lt_of_lt_of_le hj L)
              refine⟨u,h1,h2,?_⟩
              have e:(Box.vec sz xs).all[j]'(Nat.lt_of_lt_of_le hj L)=(Box.vec sz (xs.take m)).all[j]:=by
                have e2:(Box.vec sz xs).all[j]? = (Box.vec sz (xs.take m)).all[j]? := by rw [hal,List.getElem?_append_left hj]
                rw [List.getElem?_eq_getElem (Nat.lt_of_lt_of_le hj L),List.getElem?_eq_getElem hj,so_]at e2
                exact e2
              rw [<- e];exact F
            free:=B.free,froz:=λf=>by simp [Box.mut]at f }
        exact this
      · simp only [supd,if_neg e]at f
        exact hc.inv.box T bx f
    · have old:∀T bx,supd σ.store n (some (.vec sz (xs.take m))) T=some bx->∃bx',σ.store T=some bx'/\bx'.mut=bx.mut:=λT bx f=>by
        by_cases e:T=n
        · subst e
          simp only [supd,if_true,so_]at f
          subst f
          exact⟨_,h,rfl⟩
        · simp only [supd,if_neg e]at f
          exact⟨bx,f,rfl⟩
      obtain ⟨c1,M,m1⟩:=old _ _ h1
      obtain ⟨c2,N,_⟩:=old _ _ h2
      exact hc.inv.one Y n2 c1 c2 b o s1 o' s2 M N (m1.trans F) W Z
  | coM σ n sz cs O h hl hcs =>
    intro G w a hc
    refine⟨G,{ sz:=hc.sz,df:=hc.df,tm:=hc.tm,inv := { hc.inv with box:=λm bx f => ?_,one:=λY n2 b1 b2 b o s1 o' s2 h1 h2 F W Z => ?_ } }⟩
    · by_cases e:m=n
      · subst e
        simp only [supd,if_true,so_]at f
        subst f
        obtain ⟨b,o,A,I,J,f⟩:=hc.inv.box m _ h
        refine⟨b,o,A,I,?_,λ_=>f rfl⟩
        have B:Stands G w (.cells sz cs) b o A:=J
        have:Stands G w (.cells sz O) b o A :=
          { sz:=B.sz,even:=trivial,room:=by have:=B.room;simp only [Box.all]at this ⊢;omega
            cell:=λj hj=>by
              have hj1:j<O.length:=hj
              have R:j<cs.length:=by omega
              obtain ⟨u,h1,h2,F⟩:=B.cell j R
              refine⟨u,h1,h2,?_⟩
              show RepV G w u O[j]
              rcases hcs j hj1 R with e|e
              · rw [e];exact F
              · rw [e];exact Gi hc.inv F
            free:=B.free,froz:=λf=>by simp [Box.mut]at f,cel:=B.cel }
        exact this
      · simp only [supd,if_neg e]at f
        exact hc.inv.box m bx f
    · have old:∀m bx,supd σ.store n (some (.cells sz O)) m=some bx->∃bx',σ.store m=some bx'/\bx'.mut=bx.mut:=λm bx f=>by
        by_cases e:m=n
        · subst e
          simp only [supd,if_true,so_]at f
          subst f
          exact⟨_,h,rfl⟩
        · simp only [supd,if_neg e]at f
          exact⟨bx,f,rfl⟩
      obtain ⟨c1,M,m1⟩:=old _ _ h1
      obtain ⟨c2,N,_⟩:=old _ _ h2
      exact hc.inv.one Y n2 c1 c2 b o s1 o' s2 M N (m1.trans F) W Z
  | pm σ n h =>
    intro G w a hc
    refine⟨G,{ sz:=hc.sz,df:=hc.df,tm:=hc.tm,inv := { hc.inv with box:=λm bx f => ?_,one:=λY n2 b1 b2 b o s1 o' s2 h1 h2 F W Z => ?_ } }⟩
    · by_cases e:m=n
      · subst e
        simp only [supd,if_true,so_]at f
        subst f
        obtain ⟨b,o,A,I,J,f⟩:=hc.inv.box m _ h
        refine⟨b,o,A,I,?_,λ_=>f rfl⟩
        obtain ⟨k0,arr,clock,M,N,k3⟩:=J
        exact⟨k0,arr,clock,M,N,λi h1 h2=>absurd h2 (Nat.not_lt_zero i)⟩
      · simp only [supd,if_neg e]at f
        exact hc.inv.box m bx f
    · have old:∀m bx,supd σ.store n (some (.pmap [])) m=some bx->∃bx',σ.store m=some bx'/\bx'.mut=bx.mut:=λm bx f=>by
        by_cases e:m=n
        · subst e
          simp only [supd,if_true,so_]at f
          subst f
          exact⟨_,h,rfl⟩
        · simp only [supd,if_neg e]at f
          exact⟨bx,f,rfl⟩
      obtain ⟨c1,M,m1⟩:=old _ _ h1
      obtain ⟨c2,N,_⟩:=old _ _ h2
      exact hc.inv.one Y n2 c1 c2 b o s1 o' s2 M N (m1.trans F) W Z
  | trans _ _ h1 h2 =>
    intro G w a hc
    obtain ⟨G1,F⟩:=h1 hc
    exact h2 F
theorem zw {ops:Array Oper} {tk:Nat} {K:(Nat->V)->Store->Prop} {Q':Exit->Act->World->Prop} (f:Ch C ops.toList=true)
    (Z:∀a w G sl S,K sl S->Reg C E G w a sl S tk (Ql ops.toList)->Q' .normal a w) :
    ∀(rest pre:List Oper) (sl:Nat->V) (S:Store) (a:Act) (w:World) (G:Gh),ops.toList=pre++rest->FN C ops.toList tk K rest sl S->Reg C E G w a sl S tk (Ql pre) ->
      wpList C.P ops Q' rest a w
  | [],pre,sl,S,a,w,G,L,h,F=>by
    rw [List.append_nil]at L
    exact Z a w G sl S h (L ▸ F)
  | o::rest,pre,sl0,S0,a,w,G0,L,h,F=>by
    simp only [FN]at h
    obtain ⟨sl,S,hg,h⟩:=h
    obtain ⟨G,F⟩:=hg.okR F
    dsimp only at F
    have Y:ops[pre.length]? = some o:=by rw [<- Array.getElem?_toList,L];simp
    have I:=Bv f Y
    have W:∀b,aQ ops.toList sl o=some b->Region.wanted o (yielded ops a.tmps)=b:=λb hb =>
      Ke F hb (λj R d N hd'=>(qj (Bv f N) hd').1)
    have O:ops.toList=(pre++[o])++rest:=by rw [L];simp
    unfold wpList
    split at h
    · rename_i hw
      rw [if_pos (W true hw)]
      left
      have J:∀(A:Eff) (u:Value) (w':World) (G':Gh),FN C ops.toList tk K rest (dI sl o.dst A.val) (fu S A.upd)->Reg C E G' w' (a.put o.dst u) (dI sl o.dst A.val) (fu S A.upd) tk (λn=>Ql pre n\/o.dst=some (n % 100000))->wpList C.P ops Q' rest (a.put o.dst u) w' :=
        λA u w' G' hA B=>zw f Z rest (pre++[o]) _ _ _ w' G' O hA { B with inv:=B.inv.mono (λn M=>by
          rcases M with⟨R,h1,h2⟩|M
          · exact⟨R,by simp [h1],h2⟩
          · exact⟨o,by simp,M⟩) }
      have T:∀d,o.dst=some d->∀j,¬Ql pre (d+100000*j):=λd hd j hu=>by
        obtain ⟨R,N,he⟩:=hu
        obtain ⟨i,hi,rfl⟩:=List.getElem_of_mem N
        have hlt:=(qj I hd).2
        have e:(d+100000*j) % 100000=d:=(Nat.add_mul_mod_self_left d 100000 j).trans (Nat.mod_eq_of_lt hlt)
        rw [e]at he
        simp only [Ch,Bool.and_eq_true]at f
        have:=wK f.2 i pre.length pre[i] o d (by rw [L,List.getElem?_append_left hi];simp) (by rw [L];simp) he hd
        omega
      rcases h with h|h
      case inr=>exact nil_ok F I T h J
      refine op_ok F I T h (λA u w' G' hA B=>zw f Z rest (pre++[o]) _ _ _ w' G' O hA ?_)
      exact { B with inv:=B.inv.mono (λn M=>by
          rcases M with⟨R,h1,h2⟩|M
          · exact⟨R,by simp [h1],h2⟩
          · exact⟨o,by simp,M⟩) }
    · rename_i hw
      rw [if_neg (by rw [W false hw];simp)]
      refine zw f Z rest (pre++[o]) _ _ _ w G O h ?_
      have:=F.put (Ext.refl G w) F.inv I (RepV.none)
      exact { this with inv:=this.inv.mono (λn ⟨R,h1,h2⟩=>⟨R,by simp [h1],h2⟩) }
    · exact h.elim
def R6 (ops:Array Oper) (f:Array Bool) (n:Nat):Prop:=∃i o,ops[i]? = some o/\f.getD i false=true/\o.dst=some (n % 100000)
theorem CB {ops:Array Oper} {tk:Nat} {K:(Nat->V)->Store->Prop} {Q':Exit->Act->World->Prop} (B:Ch C ops.toList=true)
    (hQ:∀a w G sl S U,K sl S->Reg C E G w a sl S tk U->Q' .normal a w) :
    ∀(fuel:Nat) (f:Array Bool) (sl:Nat->V) (S:Store) (L:Log) (a:Act) (w:World) (G:Gh),QG C ops tk K fuel f sl S L->f.size=ops.size ->
      Reg C E G w a sl S tk (R6 ops f)->wpAny C.P .any ops Q' fuel f a w
  | 0,f,sl,S,L,a,w,G,h,_,J=>⟨h.1,hQ a w G sl S _ h.2 J⟩
  | fuel+1,f,sl,S,L,a,w,G,h,hsz,J=>by
    refine⟨λh0=>hQ a w G sl S _ (h.1 h0) J,λi hi => ?_⟩
    have M:=h.2 i hi
    obtain ⟨hun,o,ho,_⟩:=mem_ready.1 hi
    have R:=Gy hun
    have I:=Bv B ho
    have N:i<f.size:=by rw [hsz];exact (Array.getElem?_eq_some_iff.1 ho).1
    have W:∀b,aQ ops.toList sl o=some b->Region.wanted o (yielded ops a.tmps)=b:=λb hb =>
      Ke J hb (λj Z d ho' hd'=>(qj (Bv B ho') hd').1)
    have F:∀n,R6 ops f n->R6 ops (f.setIfInBounds i true) n:=λn ⟨k,Z,h1,h2,Y⟩=>⟨k,Z,h1,getD_set_true h2,Y⟩
    unfold qD at M
    unfold wpOp
    simp only [ho]at M ⊢
    split at M
    · rename_i hw
      rw [if_pos (W true hw)]
      left
      refine op_ok J I (λd hd j hu => ?_) M (λA u w' G' hA T=>CB B hQ fuel _ _ _ _ _ w' G' hA.2 (by simp [hsz]) ?_)
      · obtain ⟨k,Z,h1,h2,Y⟩:=hu
        have hlt:=(qj I hd).2
        have e:(d+100000*j) % 100000=d:=(Nat.add_mul_mod_self_left d 100000 j).trans (Nat.mod_eq_of_lt hlt)
        rw [e]at Y
        simp only [Ch,Bool.and_eq_true]at B
        have:=wK B.2 k i Z o d (by simpa using h1) (by simpa using ho) Y hd
        subst this
        rw [R]at h2;cases h2
      · exact { T with inv:=T.inv.mono (λn O=>by
          rcases O with O|O
          · exact F n O
          · exact⟨i,o,ho,by simp [Array.getD_eq_getD_getElem?,N],O⟩) }
    · rename_i hw
      rw [if_neg (by rw [W false hw];simp)]
      refine CB B hQ fuel _ _ _ _ _ w G M (by simp [hsz]) ?_
      have:=J.put (Ext.refl G w) J.inv I (RepV.none)
      exact { this with inv:=this.inv.mono F }
    · exact M.elim
theorem zo {ops:Array Oper} {tk:Nat} {K:(Nat->V)->Store->Prop}:∀(rest:List Oper) (k:Nat) (L:List (Nat×Eff)) (F:Log) (sl:Nat->V) (S:Store),
    (∀i,rest[i]? = ops[k+i]?)->k+rest.length=ops.size->(∀j B,F j=some B->(j,B)∈L)->opsL C ops.toList tk K rest k L sl S->TS C ops tk K rest.length k sl S F
  | [],k,L,F,sl,S,_,_,_,h=>h
  | o::rest,k,L,F,sl,S,hi,W,M,h=>by
    have R:ops[k]? = some o:=by simpa using (hi 0).symm
    have I:∀i,rest[i]? = ops[k+1+i]? := λi=>by
      have:=hi (i+1)
      simpa [Nat.add_assoc,Nat.add_comm 1 i]using this
    simp only [List.length_cons]at W ⊢
    simp only [opsL]at h
    show qD C ops tk k (TS C ops tk K rest.length (k+1)) sl S F
    unfold qD
    simp only [R]
    split at h
    · rename_i J
      simp only [J]
      refine yB (λA ⟨hc,T⟩=>⟨λj B hj => ?_,zo rest (k+1) ((k,A)::L) _ _ _ I (by omega) (λj B hj => ?_) T⟩) h
      · have key:∀(L:List (Nat×Eff)),Gn ops.toList k A L->(j,B)∈L->Dis A B\/DV ops.toList 4 j k=true:=by
          intro L
          induction L with
          | nil=>intro _ f;cases f
          | cons p L O =>
            intro hc f
            obtain ⟨Y,Z⟩:=p
            rcases List.mem_cons.1 f with f|f
            · simp only [Prod.mk.injEq]at f
              obtain ⟨rfl,rfl⟩:=f
              exact hc.1
            · exact O hc.2 f
        exact key L hc (M j B hj)
      · unfold uP at hj
        split at hj
        · rename_i N
          simp only [so_]at hj
          subst hj N
          simp
        · exact List.mem_cons_of_mem _ (M j B hj)
    · rename_i J
      simp only [J]
      exact zo rest (k+1) L F _ _ I (by omega) M h
    · exact h.elim
theorem Reg.next {G:Gh} {w:World} {a:Act} {sl:Nat->V} {S:Store} {tk:Nat} {U:Nat->Prop} (h:Reg C E G w a sl S tk U):Reg C E G w a sl S (tk+1) (λ_=>False) :=
  { h with inv := { h.inv with tick:=λn x f => .inl (by rcases h.inv.tick n x f with h1 | ⟨h1,_⟩ <;> omega) } }
theorem Reg.drew {G:Gh} {w:World} {a:Act} {sl:Nat->V} {S:Store} {tk:Nat} {U:Nat->Prop} (h:Reg C E G w a sl S tk U):Reg C E G w.drew a sl S tk U :=
  { h with tm:=λi=>(h.tm i).ext h.inv.drew.2,inv:=h.inv.drew.1 }
theorem Ji {id:Nat} {ops:Array Oper} {f:Bool} {σ:St} {K:St->Prop} {Q':Exit->Act->World->Prop} {G:Gh} {w:World} {a:Act} (hc:K6 C E G w a σ)
    (O:∀a w G N,K N->K6 C E G w a N->Q' .normal a w) (h:PO C ops f σ K):(Code.region id ops f).wp C.P Q' a w:=by
  obtain ⟨A,h⟩:=h
  cases f with
  | false =>
    simp only [cond_false]at h
    refine wp_region_list (zw (E:=E) A (λa w G sl S L I=>O a w G ⟨sl,S,σ.tick+1⟩ L I.next) ops.toList [] σ.slots σ.store a w G rfl h ?_)
    exact { hc with inv:=hc.inv.mono (λ_ F=>F.elim) }
  | true =>
    simp only [cond_true]at h
    obtain ⟨R,M,hl⟩:=h
    simp only [Region.lexB,Bool.and_eq_true]at M
    refine wp_region_any R ?_
    have h1:=zo (ops:=ops) ops.toList 0 [] (λ_=>none) σ.slots σ.store (λi=>by simp) (by simp) (λj B hj=>by cases hj) hl
    have h2:=G8 (C:=C) (tk:=σ.tick) ops.toList.length 0 (Array.replicate ops.size false) σ.slots σ.store (λ_=>none) (by simp) (by simpa using M.2)
      (λk ok _ o=>by
        exfalso
        rcases Nat.lt_or_ge k ops.size with J|J
        · simp [Array.getD_eq_getD_getElem?,J]at o
        · simp [Array.getD_eq_getD_getElem?,J]at o) (λ_ _=>rfl) h1
    have T:=CB (E:=E) (Q':=Q') A (λa w G sl S U L I=>O a w G ⟨sl,S,σ.tick+1⟩ L I.next) _ _ _ _ _ a w.drew G h2 (by simp)
      (Reg.drew { hc with inv:=hc.inv.mono (λ_ F=>F.elim) })
    simpa using T
theorem exists_least {p:Nat->Prop} (h:∃n,p n):∃n,p n/\∀m,p m->n<=m:=by
  obtain ⟨n,j⟩:=h
  induction n using Nat.strongRecOn with
  | _ n o =>
    by_cases hx:∃m,m<n/\p m
    · obtain ⟨m,h1,h2⟩:=hx
      exact o m h1 h2
    · exact⟨n,j,λm f=>Nat.le_of_not_lt (λh1=>hx ⟨m,h1,f⟩)⟩
open Classical in
noncomputable def leastOf (p:Nat->Prop):Nat:=if h:∃n,p n then (exists_least h).choose else 0
theorem leastOf_spec {p:Nat->Prop} (h:∃n,p n):p (leastOf p)/\∀m,p m->leastOf p<=m:=by
  unfold leastOf
  rw [dif_pos h]
  exact (exists_least h).choose_spec
def Fits (C:Cfg) (E:Env) (I:St->Prop) (m:St->Nat) (a:Act) (w:World) (n:Nat):Prop:=∃G σ,K6 C E G w a σ/\I σ/\m σ=n
theorem Gst.ok {σ f:St} (h:Gst σ f):∀{G:Gh} {w:World} {a:Act},K6 C E G w a σ->∃G',K6 C E G' w a f:=λhc=>Gst.okR h hc
theorem sI:∀(c:Code) (Q:Exit->St->Prop) (σ:St) (Q':Exit->Act->World->Prop) (a:Act) (w:World) (G:Gh),K6 C E G w a σ ->
    (∀e a w G A,Q e A->K6 C E G w a A->Q' e a w)->wpD C c Q σ->c.wp C.P Q' a w
  | .skip,Q,σ,Q',a,w,G,hc,j,h=>wp_skip (j _ a w G σ h hc)
  | .ret,Q,σ,Q',a,w,G,hc,j,h=>wp_ret (j _ a w G σ h hc)
  | .exit id,Q,σ,Q',a,w,G,hc,j,h=>wp_exit (j _ a w G σ h hc)
  | .seq x y,Q,σ,Q',a,w,G,hc,j,h=>by
    refine wp_seq (sI x _ σ _ a w G hc (λe a w G A o f => ?_) h)
    cases e with
    | normal =>
      obtain ⟨M,O,o⟩:=o
      obtain ⟨G2,B⟩:=O.ok f
      exact sI y Q M Q' a w G2 B j o
    | exit id=>exact j _ a w G A o f
    | goto l=>exact j _ a w G A o f
    | ret=>exact j _ a w G A o f
    | panic ch=>exact j _ a w G A o f
    | outgrown=>exact j _ a w G A o f
  | .cond c x y,Q,σ,Q',a,w,G,hc,j,h=>by
    obtain ⟨t,ht,h1,h2⟩:=h
    have hv:=Reg.ev hc c
    rw [ht]at hv
    have L:=hv.d_inv.bool_inv
    cases t with
    | true =>
      obtain ⟨M,O,o⟩:=h1 rfl
      obtain ⟨G2,B⟩:=O.ok hc
      exact wp_cond_true L (sI x Q M Q' a w G2 B j o)
    | false =>
      obtain ⟨M,O,o⟩:=h2 rfl
      obtain ⟨G2,B⟩:=O.ok hc
      exact wp_cond_false L (sI y Q M Q' a w G2 B j o)
  | .block id x,Q,σ,Q',a,w,G,hc,j,h=>by
    refine wp_block (sI x _ σ _ a w G hc (λe a w G A o f => ?_) h)
    cases e with
    | exit Z =>
      simp only [LB]at o
      simp only [Exit.inBlock]
      cases hb:Nat.beq Z id with
      | true =>
        rw [hb]at o
        rw [if_pos (Nat.eq_of_beq_eq_true hb)]
        exact j _ a w G A o f
      | false =>
        rw [hb]at o
        rw [if_neg (λe=>by rw [e,Nat.beq_refl]at hb;cases hb)]
        exact j _ a w G A o f
    | normal=>exact j _ a w G A o f
    | goto l=>exact j _ a w G A o f
    | ret=>exact j _ a w G A o f
    | panic ch=>exact j _ a w G A o f
    | outgrown=>exact j _ a w G A o f
  | .loop x,Q,σ,Q',a,w,G,hc,j,h=>by
    obtain ⟨I,m,⟨σ0,T,h0⟩,F⟩:=h
    obtain ⟨G0,W⟩:=T.ok hc
    refine wp_loop (λa w=>∃n,Fits C E I m a w n) (λa w=>leastOf (Fits C E I m a w)) ⟨m σ0,G0,σ0,W,h0,rfl⟩ (λa w hI => ?_)
    obtain ⟨⟨G,σ,hc,Y,hm⟩,_⟩:=leastOf_spec hI
    refine sI x _ σ _ a w G hc (λe J w' G' A o f => ?_) (F σ Y)
    cases e with
    | normal =>
      obtain ⟨R,hg3,h1,h2⟩:=o
      obtain ⟨G3,hc3⟩:=hg3.ok f
      have N:∃n,Fits C E I m J w' n:=⟨m R,G3,R,hc3,h1,rfl⟩
      refine⟨N,?_⟩
      have:=(leastOf_spec N).2 (m R) ⟨G3,R,hc3,h1,rfl⟩
      omega
    | exit id=>exact j _ J w' G' A o f
    | goto l=>exact j _ J w' G' A o f
    | ret=>exact j _ J w' G' A o f
    | panic ch=>exact j _ J w' G' A o f
    | outgrown=>exact j _ J w' G' A o f
  | .region id ops draw,Q,σ,Q',a,w,G,hc,j,h=>Ji hc (λa w G A hk f=>j _ a w G A hk f) h
  | .rangeFunc ..,_,_,_,_,_,_,_,_,h=>h.elim
  | .scope _,_,_,_,_,_,_,_,_,h=>h.elim
  | .label _,_,_,_,_,_,_,_,_,h=>h.elim
  | .goto _,_,_,_,_,_,_,_,_,h=>h.elim
  | .refuse _,_,_,_,_,_,_,_,_,h=>h.elim
end
end Go.Eng

/-
  THE ENGINE: a function's contract out of its body.
-/
namespace Go.Eng
set_option linter.unusedSectionVars false
variable [DM]
def GU (C:Cfg) (σ:St):List ResultVar->Option (List V)
 | []=>some []
 | .tmp t::f=>(GU C σ f).map (σ.slots t :: ·)
 | .cell a t::f=>match vN C.P t σ.store (σ.slots a),GU C σ f with
  | some A,some vs=>some (A.val::vs)
  | _,_=>none
def Jg (vs:List V):V:=match vs with
 | [v]=>v
 | vs => .tup vs
def Qo (k:Nat) (r:V) (Sout:List (Option Box)) (vs:List V) (S:Store):Prop :=
 ∃(f:List V) (ν:List Nm),vs.length=f.length/\(∀(i:Nat) (h1:i<vs.length) (h2:i<f.length),f[i]=vs[i]\/f[i]=co S vs[i])/\Jg f=ren ν r/\ν.length=Sout.length/\ν.Nodup/\(∀i,i<k->ν[i]? = some (aA i)) /\
  ∀(i:Nat) (bx:Box),Sout[i]? = some (some bx)->∃n,ν[i]? = some n/\S n=some (bx.ren ν)
def retQ (C:Cfg) (f:List ResultVar) (fin:List V->Store->Prop):Exit->St->Prop
 | .normal,σ | .ret,σ=>∃vs,GU C σ f=some vs/\fin vs σ.store
 | _,_=>False
def Pv (args:List V):Nat->V:=λi=>args.getD i .none
theorem KY {C:Cfg} {E:Env} {G:Gh} {w:World} {a:Act} {σ:St} (hc:K6 C E G w a σ):∀(j:List ResultVar) (vs:List V),GU C σ j=some vs ->
  ∃us:List Value,xq G w us vs/\(j.mapM (fun | .tmp t=>pure (a.tmps.getD t undef) | .cell b t=>do loadVar t (<- asAddr (a.tmps.getD b undef)):ResultVar->Sem Value)).run C.P w = .ok us w
 | [],vs,h=>by
  simp only [GU,so_]at h
  subst h
  exact⟨[],⟨rfl,λi h1=>absurd h1 (Nat.not_lt_zero i)⟩,rfl⟩
 | .tmp t::j,vs,h=>by
  simp only [GU,Option.map_eq_some_iff]at h
  obtain ⟨f,h1,rfl⟩:=h
  obtain ⟨us,h2,B⟩:=KY hc j f h1
  refine⟨a.tmps.getD t undef::us,⟨by simp [h2.1],λi F N => ?_⟩,by simp only [List.mapM_cons,Sem.run_bind,Sem.run_pure,Result.andThen_ok,B]⟩
  cases i with
  | zero=>exact hc.tm t
  | succ i=>exact h2.2 i _ _
 | .cell b t::j,vs,h=>by
  simp only [GU]at h
  split at h
  ·rename_i A f I h1
   simp only [so_]at h
   subst h
   obtain ⟨us,h2,B⟩:=KY hc j f h1
   obtain ⟨J,O,L,F,M,_⟩:=J3 hc.inv (hc.tm b) I
   refine⟨O::us,⟨by simp [h2.1],λi F N => ?_⟩,?_⟩
   ·cases i with
    | zero=>exact M
    | succ i=>exact h2.2 i _ _
   ·have o:(asAddr (a.tmps.getD b undef)).run C.P w = .ok J w:=by rw [L];rfl
    simp only [List.mapM_cons,Sem.run_bind,o,Sem.run_pure,Result.andThen_ok,F,B]
  ·cases h
theorem FnM.of_wpD' {P:Program} {f:FuncId} {fn:Func} {body:Code} {C:Cfg} (hf:P.funcs[f]? = some fn) (hb:fn.body=some body) (hP:C.P=P) (hn:C.n=fn.ntmps)
  {args:List V} {Sin:List Box} {r:V} {Sout:List (Option Box)} (hl:args.length<=fn.ntmps)
  (h:∃O,Gst ⟨Pv args,kX Sin,1⟩ O/\wpD C body (retQ C fn.results.toList (Qo Sin.length r Sout)) O):FnM P f args Sin r Sout:=by
 subst hP
 intro G w j L o
 refine calls_of_wp hf hb ?_
 have hc:K6 C ⟨G,w,GH G Sin⟩ G w { tmps:=j.toArray++Array.replicate (fn.ntmps-j.toArray.size) undef,defers:=[] } ⟨Pv args,kX Sin,1⟩:=by
  refine⟨?_,rfl,λi => ?_,L⟩
  ·have:=o.1
   simp;omega
  ·have hl:=o.1
   show RepV G w _ (args.getD i .none)
   by_cases hi:i<args.length
   ·have h1:=o.2 i (by omega) hi
    simp only [Array.getD_eq_getD_getElem?,List.getD_eq_getElem?_getD]
    rw [List.getElem?_eq_getElem hi,Array.getElem?_append_left (by simp;omega)]
    simp [show i<j.length by omega]
    exact h1
   ·have e2:args.getD i .none = .none:=by simp [List.getD_eq_getElem?_getD,List.getElem?_eq_none (Nat.le_of_not_lt hi)]
    have e1:(j.toArray++Array.replicate (fn.ntmps-j.toArray.size) undef).getD i undef=undef:=by
     simp only [Array.getD_eq_getD_getElem?]
     rw [Array.getElem?_append_right (by simp;omega)]
     simp only [Array.getElem?_replicate]
     split <;> rfl
    rw [e1,e2]
    exact .none
 obtain ⟨σ0,T,h⟩:=h
 obtain ⟨G0,Y⟩:=T.ok hc
 refine sI body _ _ _ _ _ _ Y (λe a w' G' O J B => ?_) h
 have fin:retQ C fn.results.toList (Qo Sin.length r Sout) .ret O->a.defers=[]/\∃v,(results fn a.tmps).run C.P w' = .ok v w'/\∃v' G' S' W U' ν,Ending.returned v = .returned v'/\Inv ⟨G,w,GH G Sin⟩ G' w' S' W U'/\RepV G' w' v' (ren ν r) /\
   ν.length=Sout.length/\ν.Nodup/\(∀i,i<Sin.length->ν[i]? = some (aA i))/\∀(i:Nat) (bx:Box),Sout[i]? = some (some bx)->∃n,ν[i]? = some n/\S' n=some (bx.ren ν):=by
  rintro ⟨vs0,h1,vs,ν,Z,N,f1,f2,f3,f4,f5⟩
  obtain ⟨us,I,u2⟩:=KY B _ vs0 h1
  have A:xq G' w' us vs:=⟨I.1.trans Z,λi q1 q2=>by
   rcases N i (by omega) q2 with e|e
   ·rw [e];exact I.2 i q1 _
   ·rw [e];exact KO B.inv (I.2 i q1 _)⟩
  have M:∃v,(results fn a.tmps).run C.P w' = .ok v w'/\RepV G' w' v (Jg vs):=by
   have hm:(fn.results.mapM (fun | .tmp t=>pure (a.tmps.getD t undef) | .cell b t=>do loadVar t (<- asAddr (a.tmps.getD b undef)):ResultVar->Sem Value)).run C.P w' = .ok us.toArray w':=by
    rw [Array.mapM_eq_mapM_toList]
    simp only [Sem.run_map,u2,Result.andThen_ok]
   have F:(results fn a.tmps).run C.P w' = .ok (if h:us.toArray.size=1 then us.toArray[0]else .tuple us.toArray) w':=by
    unfold results
    simp only [Sem.run_bind,Sem.run_pure]
    exact (congrArg (λx=>Result.andThen x (λ(a:Array Value) w'=>Result.ok (if h:a.size=1 then a[0]else Value.tuple a) w')) hm).trans rfl
   refine⟨_,F,?_⟩
   have R:=A.1
   clear f1 N Z u2 hm F
   match vs,us,A,R with
   | [v],[u],A,_=>exact A.2 0 (by simp) (by simp)
   | [],[],A,_=>exact .tup [] [] A.1 A.2
   | v1::v2::vs,x1::x2::us,A,_ =>
    rw [dif_neg (by simp)]
    exact .tup _ _ A.1 A.2
  obtain ⟨v,hv,rv⟩:=M
  refine⟨B.df,v,hv,v,G',_,_,_,ν,rfl,B.inv,?_,f2,f3,f4,f5⟩
  rw [<- f1]
  exact rv
 cases e with
 | normal=>exact fin J
 | ret=>exact fin J
 | exit id=>exact J.elim
 | goto l=>exact J.elim
 | panic ch=>exact J.elim
 | outgrown=>exact J.elim
end Go.Eng

/-
  THE ENGINE: a body over a list of the boxes that are known ('wH'), ticks hidden; the rules for control, regions and loops.
-/
namespace Go.Eng
set_option linter.unusedSectionVars false
variable [DM]
set_option linter.unusedVariables false
abbrev Hp:=List (Nm×Option Box)
structure Ag (H:Hp) (S:Store) (t:Nat):Prop where
 pos:0<t
 nd:(H.map (·.1)).Nodup
 at_:∀p∈H,p.1.2<t/\∀b,p.2=some b->S p.1=some b
structure AgR (H:Hp) (S:Store) (t:Nat) (rest:List Oper):Prop where
 pos:0<t
 nd:(H.map (·.1)).Nodup
 at_:∀p∈H,(p.1.2<t\/p.1.2=t/\∀o∈rest,o.dst≠some (p.1.1 % 100000))/\∀b,p.2=some b->S p.1=some b
def uN (C:Cfg) (rest:List Oper):Prop:=mq rest=true/\∀o∈rest,Ad C o=true
abbrev QH:=Exit->(Nat->V)->Hp->Prop
def endR (tk:Nat) (K:(Nat->V)->Hp->Prop) (sl:Nat->V) (S:Store):Prop:=∃f,AgR f S tk []/\K sl f
abbrev Fp:=Nat×List Nm×Bool
def LogOK (Γ:List Fp) (L:List (Nat×Eff)):Prop:=∀p∈L,(p.2.upd=[]/\p.2.req=[])\/∃e∈Γ,e.1=p.1/\(∀x∈p.2.req,x.1∈e.2.1)/\(∀x∈p.2.upd,x.1∈e.2.1)/\(e.2.2=false->p.2.upd=[])
def Ul (all:List Oper) (k:Nat) (T:List Nm) (w:Bool):List Fp->Prop
 | []=>True
 | e::Γ=>((w=false/\e.2.2=false)\/(∀n∈T,n∉e.2.1)\/DV all 4 e.1 k=true)/\Ul all k T w Γ
abbrev Qm:=Option (List Fp)
def okQ (q:Qm) (all:List Oper) (k:Nat) (T:List Nm) (w:Bool):Prop:=match q with
 | none=>True
 | some Γ=>Ul all k T w Γ
theorem il {b:Prop}:(none:Qm)=none\/b := .inl rfl
theorem ft {R:Store->Nat->Prop} {all:List Oper} {k:Nat} {T:List Nm} {w:Bool}:∀S tk,R S tk->okQ none all k T w:=λ_ _ _=>trivial
def pK (q:Qm) (k:Nat) (T:List Nm) (w:Bool):Qm:=q.map (λΓ=>Γ++[(k,T,w)])
def LQ (tk:Nat) (rest:List Oper) (m:Nm):Prop:=m.2<tk\/m.2=tk/\∀o∈rest,o.dst≠some (m.1 % 100000)
theorem LQ.tail {tk:Nat} {o:Oper} {rest:List Oper} {m:Nm} (h:LQ tk (o::rest) m):LQ tk rest m:=h.imp id (λh=>⟨h.1,λf ho=>h.2 f (List.mem_cons_of_mem _ ho)⟩)
def SG (tk:Nat) (rest:List Oper) (Γ:List Fp):Prop:=∀e∈Γ,∀m∈e.2.1,LQ tk rest m
theorem SG.tail {tk:Nat} {o:Oper} {rest:List Oper} {Γ:List Fp} (h:SG tk (o::rest) Γ):SG tk rest Γ:=λe he m f=>(h e he m f).tail
def oldQ (q:Qm) (tk:Nat) (rest:List Oper):Prop:=match q with
 | none=>True
 | some Γ=>SG tk rest Γ
def aZ (q:Qm) (C:Cfg) (all:List Oper) (K:(Nat->V)->Hp->Prop) (rest:List Oper) (sl:Nat->V) (H:Hp):Prop :=
 ∀S tk,uN C rest->AgR H S tk rest ->
  match q with
  | none=>FN C all tk (endR tk K) rest sl S
  | some Γ=>∀k L,all.length=k+rest.length->LogOK Γ L->SG tk rest Γ->opsL C all tk (endR tk K) rest k L sl S
def M7 (Q:QH):Exit->St->Prop:=λe σ=>∃f,Ag f σ.store σ.tick/\Q e σ.slots f
def tq (C:Cfg):Code->Bool
 | .seq a b=>tq C a&&tq C b
 | .cond _ x y=>tq C x&&tq C y
 | .block _ c=>tq C c
 | .loop c=>tq C c
 | .region _ ops f=>Ch C ops.toList&&(!f||(C.P.follows .mixedOrders&&Region.lexB .any ops))
 | _=>true
def wH (C:Cfg) (c:Code) (Q:QH) (sl:Nat->V) (H:Hp):Prop :=
 tq C c=true->∀S t,Ag H S t->∃f,Gst ⟨sl,S,t⟩ f/\wpD C c (M7 Q) f
theorem Q3 {C:Cfg} {o:Oper} {sl:Nat->V} {S:Store} {tk:Nat} {K F:Eff->Prop} (h:∀A,K A->F A) (j:QX C o sl S tk K):QX C o sl S tk F:=by
 unfold QX at *
 split at j
 ·obtain ⟨xs,e,h1,h2,f⟩:=j
  exact⟨xs,e,h1,h2,λb hb=>h _ (f b hb)⟩
 ·obtain ⟨d,n,bx,es,h1,h2,f,B,I,J⟩:=j
  exact⟨d,n,bx,es,h1,h2,f,B,I,h _ J⟩
 ·obtain ⟨n,cur,left,h1,h2,f,B⟩:=j
  exact⟨n,cur,left,h1,h2,λe=>h _ (f e),λi e he=>h _ (B i e he)⟩
 ·obtain ⟨n,e,left,h1,h2,f⟩:=j
  exact⟨n,e,left,h1,h2,h _ f⟩
 ·exact j
theorem yG {C:Cfg} {all:List Oper} {tk:Nat} {K F:(Nat->V)->Store->Prop} (j:∀sl S,K sl S->F sl S):∀(l:List Oper) (sl:Nat->V) (S:Store),FN C all tk K l sl S->FN C all tk F l sl S
 | [],_,_,h=>j _ _ h
 | o::rest,sl,S,h=>by
  simp only [FN]at h ⊢
  obtain ⟨sl',S',I,h⟩:=h
  refine⟨sl',S',I,?_⟩
  split
  ·rename_i f;simp only [f]at h;exact h.imp (yB (λA B=>yG j rest _ _ B)) (Q3 (λA B=>yG j rest _ _ B))
  ·rename_i f;simp only [f]at h;exact yG j rest _ _ h
  ·rename_i f;simp only [f]at h
theorem Be {C:Cfg} {all:List Oper} {tk:Nat} {K F:(Nat->V)->Store->Prop} (j:∀sl S,K sl S->F sl S):∀(l:List Oper) (k:Nat) (L:List (Nat×Eff)) (sl:Nat->V) (S:Store),opsL C all tk K l k L sl S->opsL C all tk F l k L sl S
 | [],_,_,_,_,h=>j _ _ h
 | o::rest,k,L,sl,S,h=>by
  simp only [opsL]at h ⊢
  split
  ·rename_i f;simp only [f]at h;exact yB (λA B=>⟨B.1,Be j rest _ _ _ _ B.2⟩) h
  ·rename_i f;simp only [f]at h;exact Be j rest _ _ _ _ h
  ·rename_i f;simp only [f]at h
theorem mW {C:Cfg}:∀(c:Code) {Q Q':Exit->St->Prop} {σ:St},(∀e σ,Q e σ->Q' e σ)->wpD C c Q σ->wpD C c Q' σ
 | .skip,_,_,_,f,h=>f _ _ h
 | .ret,_,_,_,f,h=>f _ _ h
 | .exit _,_,_,_,f,h=>f _ _ h
 | .seq x y,Q,Q',σ,f,h=>mW x (λe σ h=>by
   cases e with
   | normal=>obtain ⟨o,L,h⟩:=h;exact⟨o,L,mW y f h⟩
   | _=>exact f _ _ h) h
 | .cond c x y,Q,Q',σ,f,h=>by
  obtain ⟨t,B,h1,h2⟩:=h
  exact⟨t,B,λe=>(h1 e).imp λ_ h=>⟨h.1,mW x f h.2⟩,λe=>(h2 e).imp λ_ h=>⟨h.1,mW y f h.2⟩⟩
 | .block id x,Q,Q',σ,f,h=>mW x (λe σ h=>by
   cases e with
   | exit A =>
    simp only [LB]at h ⊢
    cases hb:Nat.beq A id with
    | true=>rw [hb]at h;exact f _ _ h
    | false=>rw [hb]at h;exact f _ _ h
   | _=>exact f _ _ h) h
 | .loop x,Q,Q',σ,f,h=>by
  obtain ⟨I,m,F,J⟩:=h
  exact⟨I,m,F,λo hI=>mW x (λe σ h=>by
   cases e with
   | normal=>exact h
   | _=>exact f _ _ h) (J o hI)⟩
 | .region id ops j,Q,Q',σ,f,h=>by
  obtain ⟨h1,h2⟩:=h
  refine⟨h1,?_⟩
  cases j with
  | true=>exact⟨h2.1,h2.2.1,Be (λ_ _=>f _ _) _ _ _ _ _ h2.2.2⟩
  | false=>exact yG (λ_ _=>f _ _) _ _ _ h2
 | .rangeFunc ..,_,_,_,_,h=>h.elim
 | .scope _,_,_,_,_,h=>h.elim
 | .label _,_,_,_,_,h=>h.elim
 | .goto _,_,_,_,_,h=>h.elim
 | .refuse _,_,_,_,_,h=>h.elim
section
variable {C:Cfg} {Q:QH} {sl:Nat->V} {H:Hp}
def Nq (K:(Nat->V)->Hp->Prop) (Q:QH):QH
 | .normal,sl,H=>K sl H
 | e,sl,H=>Q e sl H
def N8 (id:Nat) (Q:QH):QH
 | .exit f,sl,H=>bif Nat.beq f id then Q .normal sl H else Q (.exit f) sl H
 | e,sl,H=>Q e sl H
theorem wH_mono {c:Code} {Q Q':QH} (h:∀e sl H,Q e sl H->Q' e sl H) (f:wH C c Q sl H):wH C c Q' sl H:=λok S t j=>by
 obtain ⟨σ,o,f⟩:=f ok S t j
 exact⟨σ,o,mW c (λe σ ⟨A,h1,h2⟩=>⟨A,h1,h _ _ _ h2⟩) f⟩
theorem av (h:Q .normal sl H):wH C .skip Q sl H:=λ_ S t f=>⟨_,.refl _,H,f,h⟩
theorem aC (h:Q .ret sl H):wH C .ret Q sl H:=λ_ S t f=>⟨_,.refl _,H,f,h⟩
theorem aU {id:Nat} (h:Q (.exit id) sl H):wH C (.exit id) Q sl H:=λ_ S t f=>⟨_,.refl _,H,f,h⟩
theorem ak {a b:Code} (h:wH C a (Nq (wH C b Q) Q) sl H):wH C (.seq a b) Q sl H:=λok S t f=>by
 simp only [tq,Bool.and_eq_true]at ok
 obtain ⟨σ,j,h⟩:=h ok.1 S t f
 refine⟨σ,j,mW a (λe σ h => ?_) h⟩
 obtain ⟨o,h1,h2⟩:=h
 cases e with
 | normal =>
  obtain ⟨F,B,A⟩:=h2 ok.2 σ.store σ.tick h1
  exact⟨F,B,A⟩
 | _=>exact⟨o,h1,h2⟩
theorem aM {id:Nat} {c:Code} (h:wH C c (N8 id Q) sl H):wH C (.block id c) Q sl H:=λok S t o=>by
 obtain ⟨σ,A,h⟩:=h ok S t o
 refine⟨σ,A,mW c (λe σ h => ?_) h⟩
 obtain ⟨f,h1,h2⟩:=h
 cases e with
 | exit j =>
  simp only [LB,N8]at *
  cases hb:Nat.beq j id with
  | true=>rw [hb]at h2;exact⟨f,h1,h2⟩
  | false=>rw [hb]at h2;exact⟨f,h1,h2⟩
 | _=>exact⟨f,h1,h2⟩
theorem wH_if {c:Operand} {x y:Code} {b:Bool} (h:ev sl c = .d (.bool b)) (h1:b=true->wH C x Q sl H) (h2:b=false->wH C y Q sl H):wH C (.cond c x y) Q sl H:=λok S t f=>by
 simp only [tq,Bool.and_eq_true]at ok
 exact⟨_,.refl _,b,h,λe=>h1 e ok.1 S t f,λe=>h2 e ok.2 S t f⟩
theorem ay {c:Operand} {x y:Code} {b:Bool} (f:ev sl c = .d (.bool b)) (hb:b=true) (h:wH C x Q sl H):wH C (.cond c x y) Q sl H :=
 wH_if f (λ_=>h) (λe=>by rw [hb]at e;cases e)
theorem ax {c:Operand} {x y:Code} {b:Bool} (f:ev sl c = .d (.bool b)) (hb:b=false) (h:wH C y Q sl H):wH C (.cond c x y) Q sl H :=
 wH_if f (λe=>by rw [hb]at e;cases e) (λ_=>h)
theorem wM {c:Code} {sl':Nat->V} {f:Hp} (h:wH C c Q sl' f) (j:∀S t,Ag H S t->∃S',Gst ⟨sl,S,t⟩ ⟨sl',S',t⟩/\Ag f S' t):wH C c Q sl H:=λok S t o=>by
 obtain ⟨S',h1,h2⟩:=j S t o
 obtain ⟨σ,B,A⟩:=h ok S' t h2
 exact⟨σ,h1.trans B,A⟩
def pick (f:List (Nat×V)) (sl:Nat->V):List (Nat×V):=f.map λp=>(p.1,sl p.1)
theorem QP {c:Code} (f:List (Nat×V)) (he:pick f sl=f) (h:wH C c Q (envS f) H):wH C c Q sl H :=
 wM h λS t j=>⟨S,by
  have:=Gst.forget ⟨sl,S,t⟩ (f.map (·.1))
  have e:((f.map (·.1)).map λk=>(k,sl k))=f:=by rw [List.map_map];exact he
  simp only [e]at this
  exact this,j⟩
def pre (H0 H:Hp):Prop:=∃f:List Nat,f.Nodup/\f.map (λi=>H[i]?)=H0.map some
theorem aG {H0 H:Hp} (h:H.take H0.length=H0):pre H0 H:=by
 have hl:H0.length<=H.length:=by
  have:=congrArg List.length h
  rw [List.length_take]at this;omega
 refine⟨List.range H0.length,List.nodup_range,?_⟩
 refine List.ext_getElem (by simp) (λi h1 h2 => ?_)
 simp only [List.length_map]at h2
 simp only [List.getElem_map,List.getElem_range]
 have:H0[i]? = H[i]? := by
  conv=>lhs;rw [<- h]
  rw [List.getElem?_take,if_pos h2]
 rw [<- this,List.getElem?_eq_getElem h2]
theorem Bp {H0 H:Hp} {f:List Nat} (h:f.map (λi=>H[i]?)=H0.map some):f.length=H0.length/\∀(i:Nat) (h1:i<f.length) (h2:i<H0.length),H[f[i]]? = some H0[i]:=by
 have hl:f.length=H0.length:=by simpa using congrArg List.length h
 refine⟨hl,λi h1 h2 => ?_⟩
 have:=congrArg (λl=>l[i]?) h
 simpa [List.getElem?_map,List.getElem?_eq_getElem h1,List.getElem?_eq_getElem h2]using this
theorem Ag.pre {S:Store} {t:Nat} {H0:Hp} (h:pre H0 H) (F:Ag H S t):Ag H0 S t:=by
 obtain ⟨j,R,he⟩:=h
 obtain ⟨hl,I⟩:=Bp he
 refine⟨F.pos,?_,λp O => ?_⟩
 ·refine List.pairwise_iff_getElem.2 (λa b L hb J e => ?_)
  simp only [List.length_map]at L hb
  simp only [List.getElem_map]at e
  have A:=List.getElem?_eq_some_iff.1 (I a (by omega) L)
  have B:=List.getElem?_eq_some_iff.1 (I b (by omega) hb)
  obtain ⟨N,A⟩:=A
  obtain ⟨M,B⟩:=B
  have hij:j[a]≠j[b]:=λe=>by
   have:=(List.pairwise_iff_getElem.1 R) a b (by omega) (by omega) J
   exact this e
  have o:=F.nd
  rcases Nat.lt_or_gt_of_ne hij with f|f
  ·have:=(List.pairwise_iff_getElem.1 o) j[a] j[b] (by simpa using N) (by simpa using M) f
   simp only [List.getElem_map]at this
   rw [A,B]at this
   exact this e
  ·have:=(List.pairwise_iff_getElem.1 o) j[b] j[a] (by simpa using M) (by simpa using N) f
   simp only [List.getElem_map]at this
   rw [A,B]at this
   exact this e.symm
 ·obtain ⟨i,hi,rfl⟩:=List.getElem_of_mem O
  exact F.at_ _ (List.mem_of_getElem? (I i (by omega) hi))
def Kj {β:Type} (f:β->List (Nat×V)) (h:β->Hp) (R:β->Prop):(Nat->V)->Hp->Prop:=λsl H=>∃x,R x/\Eng.pick (f x) sl=f x/\Eng.pre (h x) H
theorem Tf {c:Code} {H0:Hp} (h:Eng.pre H0 H) (j:wH C c Q sl H0):wH C c Q sl H:=wM j (λS t f=>⟨S,.refl _,f.pre h⟩)
theorem lu {c:Code} {β:Type} (f:β->List (Nat×V)) (o:β->Hp) (R:β->Prop) (h1:wH C c (Nq (Kj f o R) Q) sl H) (h2:∀x,R x->∀sl' j,Eng.pick (f x) sl'=f x->Eng.pre (o x) j->Q .normal sl' j):wH C c Q sl H:=by
 refine wH_mono (λe sl H h => ?_) h1
 cases e with
 | normal =>
  obtain ⟨x,B,he,A⟩:=h
  exact h2 x B _ _ he A
 | _=>exact h
theorem aO {c:Code} {H0:Hp} (f:List (Nat×V)) (he:Eng.pick f sl=f) (j:Eng.pre H0 H) (h:wH C c Q (envS f) H0):wH C c Q sl H:=Tf j (QP f he h)
def loopE {β:Type} (f:β->List (Nat×V)) (h:β->Hp) (R:β->Prop) (m:β->Nat) (x:β) (sl:Nat->V) (H:Hp):Prop:=∃x',R x'/\m x'<m x/\pick (f x') sl=f x'/\pre (h x') H
def JP {β:Type} (f:β->List (Nat×V)) (h:β->Hp) (R:β->Prop) (m:β->Nat) (x:β) (Q:QH):QH
 | .normal,sl,H=>loopE f h R m x sl H
 | e,sl,H=>Q e sl H
theorem Mw {f:List (Nat×V)} {S:Store} {t:Nat} (he:pick f sl=f):Gst ⟨sl,S,t⟩ ⟨envS f,S,t⟩:=by
 have:=Gst.forget ⟨sl,S,t⟩ (f.map (·.1))
 have e:((f.map (·.1)).map λk=>(k,sl k))=f:=by rw [List.map_map];exact he
 simp only [e]at this
 exact this
open Classical in
theorem Dj {c:Code} {β:Type} (f:β->List (Nat×V)) (N:β->Hp) (R:β->Prop) (m:β->Nat) (A:β) (hx:R A) (he:pick (f A) sl=f A) (hH:pre (N A) H)
  (h:∀x,R x->wH C c (JP f N R m x Q) (envS (f x)) (N x)):wH C (.loop c) Q sl H:=by
 intro ok S t ag0
 have ag:=ag0.pre hH
 let I:St->Nat->Prop:=λσ n=>∃x,R x/\m x=n/\Ag (N x) σ.store σ.tick/\σ.slots=envS (f x)
 have key:∀σ n,I σ n->∃L,Gst σ L/\wpD C c (seqQ (λo=>∃B,Gst o B/\∃j,j<n/\I B j) (M7 Q)) L:=by
  rintro ⟨sl',S',t'⟩ n ⟨x,hR,hm,ag',rfl⟩
  obtain ⟨L,hg,hw⟩:=h x hR ok S' t' ag'
  refine⟨L,hg,mW c (λe σ h => ?_) hw⟩
  obtain ⟨H',h1,h2⟩:=h
  cases e with
  | normal =>
   obtain ⟨x',W,M,Y,hp⟩:=h2
   exact⟨⟨envS (f x'),σ.store,σ.tick⟩,Mw Y,m x',by omega,x',W,rfl,h1.pre hp,rfl⟩
  | _=>exact⟨H',h1,h2⟩
 let J:St->Nat->Prop:=λL n=>wpD C c (seqQ (λo=>∃B,Gst o B/\∃j,j<n/\I B j) (M7 Q)) L
 have hI0:I ⟨envS (f A),S,t⟩ (m A):=⟨A,hx,rfl,ag,rfl⟩
 obtain ⟨σ0,T,O⟩:=key _ _ hI0
 refine⟨⟨sl,S,t⟩,.refl _,?_⟩
 show wpD C (.loop c) (M7 Q) _
 refine⟨λσ=>∃n,J σ n,λσ=>leastOf (J σ),⟨σ0,(Mw he).trans T,_,O⟩,λσ hJ => ?_⟩
 obtain ⟨h1,h2⟩:=leastOf_spec hJ
 refine mW c (λe o hq => ?_) h1
 cases e with
 | normal =>
  obtain ⟨B,Z,j,M,hI⟩:=hq
  obtain ⟨σ4,hg4,F⟩:=key B j hI
  refine⟨σ4,Z.trans hg4,⟨j,F⟩,?_⟩
  have:=(leastOf_spec (p:=J σ4) ⟨j,F⟩).2 j F
  exact Nat.lt_of_le_of_lt this M
 | _=>exact hq
theorem AgR.start {S:Store} {t:Nat} (h:Ag H S t) (ops:List Oper):AgR H S t ops:=⟨h.pos,h.nd,λp f=>⟨.inl (h.at_ p f).1,(h.at_ p f).2⟩⟩
theorem AgR.fin {S:Store} {t:Nat} (h:AgR H S t []):Ag H S (t+1):=⟨Nat.succ_pos _,h.nd,λp f=>⟨by rcases (h.at_ p f).1 with h1 | ⟨h1,_⟩ <;> omega,(h.at_ p f).2⟩⟩
theorem AgR.tail {S:Store} {t:Nat} {o:Oper} {rest:List Oper} (h:AgR H S t (o::rest)):AgR H S t rest:=⟨h.pos,h.nd,λp f=>⟨by
 rcases (h.at_ p f).1 with h1|⟨h1,h2⟩
 ·exact .inl h1
 ·exact .inr ⟨h1,λo ho=>h2 o (List.mem_cons_of_mem _ ho)⟩,(h.at_ p f).2⟩⟩
theorem uN.tail {o:Oper} {rest:List Oper} (h:uN C (o::rest)):uN C rest:=⟨by
 have:=h.1;simp only [mq,Bool.and_eq_true]at this;exact this.2,λo ho=>h.2 o (List.mem_cons_of_mem _ ho)⟩
theorem au {id:Nat} {ops:List Oper} (h:aZ none C ops (λsl H=>Q .normal sl H) ops sl H):wH C (.region id ops.toArray false) Q sl H:=λok S t j=>by
 refine⟨_,.refl _,?_⟩
 simp only [tq,Bool.not_false,Bool.true_or,Bool.and_true]at ok
 have f:=ok
 simp only [Ch,Bool.and_eq_true]at f
 have h1:=h S t ⟨f.2,λo ho=>List.all_eq_true.1 f.1 o ho⟩ (AgR.start j _)
 refine⟨ok,?_⟩
 exact yG (λsl S ⟨A,h1,h2⟩=>⟨A,h1.fin,h2⟩) _ _ _ h1
theorem bg {id:Nat} {ops:List Oper} (h:aZ (some []) C ops (λsl H=>Q .normal sl H) ops sl H):wH C (.region id ops.toArray true) Q sl H:=λok S t A=>by
 refine⟨_,.refl _,?_⟩
 simp only [tq,Bool.and_eq_true,Bool.not_true,Bool.false_or]at ok
 obtain ⟨j,B,hl⟩:=ok
 have f:=j
 simp only [Ch,Bool.and_eq_true]at f
 have h1:=h S t ⟨f.2,λo ho=>List.all_eq_true.1 f.1 o ho⟩ (AgR.start A _) 0 [] (by simp) (λp I=>by cases I) (λe he=>by cases he)
 refine⟨j,B,hl,?_⟩
 exact Be (λsl S ⟨F,h1,h2⟩=>⟨F,h1.fin,h2⟩) _ _ _ _ _ h1
variable {q:Qm} {all rest:List Oper} {K:(Nat->V)->Hp->Prop}
theorem af (h:K sl H):aZ q C all K [] sl H:=λS tk _ f=>by
 cases q with
 | none=>exact⟨H,f,h⟩
 | some Γ=>intro k L _ _ _;exact⟨H,f,h⟩
theorem Eu {all:List Oper} {k:Nat} {A:Eff} {T:List Nm} {w:Bool} {Γ:List Fp} (I:(∀x∈A.req,x.1∈T)/\∀x∈A.upd,x.1∈T) (J:w=false->A.upd=[]) (O:Ul all k T w Γ):∀{L:List (Nat×Eff)},LogOK Γ L->Gn all k A L
 | [],_=>trivial
 | (j,B)::L,h=>by
  refine⟨?_,Eu I J O (λp o=>h p (by simp [o]))⟩
  rcases h (j,B) (by simp)with⟨h1,h2⟩|⟨e,he,h1,h2,N,Y⟩
  ·exact .inl (by unfold Dis;dsimp only at h1 h2;rw [h1,h2];simp)
  ·have key:∀{Γ:List Fp},Ul all k T w Γ->e∈Γ->(w=false/\e.2.2=false)\/(∀n∈T,n∉e.2.1)\/DV all 4 e.1 k=true:=by
    intro Γ
    induction Γ with
    | nil=>intro _ h;cases h
    | cons x Γ W =>
     intro h1 h2
     rcases List.mem_cons.1 h2 with rfl|h2
     ·exact h1.1
     ·exact W h1.2 h2
   rcases key O he with⟨f,Z⟩|f|f
   ·have R:=J f
    have M:=Y Z
    exact .inl (by unfold Dis;dsimp only at M;rw [R,M];simp)
   ·refine .inl ⟨λp o=>⟨λx F e' => ?_,λx F e' => ?_⟩,λx F p o e' => ?_⟩
    ·exact f _ (I.2 p o) (e' ▸ h2 x F)
    ·exact f _ (I.2 p o) (e' ▸ N x F)
    ·exact f _ (I.1 p o) (e' ▸ N x F)
   ·rw [h1]at f;exact .inr f
theorem om {o:Oper} {v:V} (R:aQ all sl o=some true) (j:∀S tk (W:Eff->Prop),AgR H S tk (o::rest)->(∀A,A.upd=[]->A.req=[]->A.val=v->W A)->opD C o sl S tk W)
  (h:aZ q C all K rest (dI sl o.dst v) H):aZ q C all K (o::rest) sl H:=λS tk ok F=>by
 have M:=h S tk ok.tail F.tail
 cases q with
 | none =>
  refine⟨sl,S,.refl _,?_⟩
  simp only [R]
  exact .inl (j S tk _ F (λA f I J=>by rw [f,J];exact M))
 | some Γ =>
  intro k L Z N O
  simp only [opsL,R]
  refine j S tk _ F (λA f I J=>⟨?_,?_⟩)
  ·refine Eu (T:=[]) (w:=false) (Γ:=Γ) ⟨by rw [I];simp,by rw [f];simp⟩ (λ_=>f) ?_ N
   clear M N h O
   induction Γ with
   | nil=>trivial
   | cons e Γ Y=>exact⟨.inr (.inl (λn hn=>by cases hn)),Y⟩
  rw [f,J]
  exact M (k+1) ((k,A)::L) (by simp only [List.length_cons]at Z;omega) (λp B=>by
   rcases List.mem_cons.1 B with B|B
   ·rw [B];exact .inl ⟨f,I⟩
   ·exact N p B) O.tail
theorem dJ {o:Oper} (f:aQ all sl o=some false) (h:aZ q C all K rest (dI sl o.dst .none) H):aZ q C all K (o::rest) sl H:=λS tk ok B=>by
 have j:=h S tk ok.tail B.tail
 cases q with
 | none =>
  refine⟨sl,S,.refl _,?_⟩
  simp only [f]
  exact j
 | some Γ =>
  intro k L F I A
  simp only [opsL,f]
  exact j (k+1) L (by simp only [List.length_cons]at F;omega) I A.tail
theorem LZ {o:Oper} (k:Nat) (w:Bool) (M:q=none\/Nat.beq all.length (k+(rest.length+1))=true) (Z:aQ all sl o=some true)
  (J:∀S tk (K':Eff->Prop),uN C (o::rest)->AgR H S tk (o::rest)->oldQ q tk (o::rest) ->
   (∀A N T,okQ q all k T w->(∀m∈T,LQ tk rest m)->((∀x∈A.req,x.1∈T)/\∀x∈A.upd,x.1∈T)->(w=false->A.upd=[])->AgR N (fu S A.upd) tk rest->aZ (pK q k T w) C all K rest (dI sl o.dst A.val) N->K' A)->opD C o sl S tk K') :
  aZ q C all K (o::rest) sl H:=λS tk ok Y=>by
 cases q with
 | none =>
  refine⟨sl,S,.refl _,?_⟩
  simp only [Z]
  exact .inl (J S tk _ ok Y trivial (λA N T _ _ _ _ f h=>h _ tk ok.tail f))
 | some Γ =>
  intro k' L I hL W
  have O:k'=k:=by
   rcases M with M|M
   ·cases M
   ·have:=Nat.eq_of_beq_eq_true M
    simp only [List.length_cons]at I
    omega
  subst O
  simp only [opsL,Z]
  refine J S tk _ ok Y W (λA N T hf B R j f h=>⟨Eu R j hf hL,?_⟩)
  have h':=h _ tk ok.tail f
  exact h' (k'+1) ((k',A)::L) (by simp only [List.length_cons]at I;omega) (λp F=>by
   rcases List.mem_cons.1 F with F|F
   ·rw [F];exact .inr ⟨(k',T,w),by simp,rfl,R.1,R.2,j⟩
   ·rcases hL p F with h1|⟨e,h1,h2⟩
    ·exact .inl h1
    ·exact .inr ⟨e,by simp [h1],h2⟩) (λe he m hm=>by
   rcases List.mem_append.1 he with he|he
   ·exact (W e he m hm).tail
   ·rw [List.mem_singleton]at he;subst he;exact B m hm)
theorem AgR.old {S:Store} {tk:Nat} {l:List Oper} (f:AgR H S tk l) {m:Nm} (h:m∈H.map (·.1)):LQ tk l m:=by
 obtain ⟨p,j,rfl⟩:=List.mem_map.1 h
 exact (f.at_ p j).1
theorem og {o:Oper} (k:Nat) (T:List Nm) (w:Bool) (R:q=none\/Nat.beq all.length (k+(rest.length+1))=true) (N:∀S tk,AgR H S tk (o::rest)->okQ q all k T w) (F:∀m∈T,m∈H.map (·.1)) (J:aQ all sl o=some true)
  (B:∀S tk (h:Eff->Prop),uN C (o::rest)->AgR H S tk (o::rest) ->
   (∀A f,((∀x∈A.req,x.1∈T)/\∀x∈A.upd,x.1∈T)->(w=false->A.upd=[])->AgR f (fu S A.upd) tk rest->aZ (pK q k T w) C all K rest (dI sl o.dst A.val) f->h A)->opD C o sl S tk h) :
  aZ q C all K (o::rest) sl H :=
 LZ k w R J (λS tk h ok j _ I=>B S tk h ok j (λA f h1 h2 L O=>I A f T (N S tk j) (λm M=>(j.old (F m M)).tail) h1 h2 L O))
theorem wL {H:Hp} {k:Nat} {n:Nm} {b:Option Box} (h:H[k]? = some (n,b)):∀m ∈ [n],m∈H.map (·.1):=λm f=>by
 rw [List.mem_singleton]at f;subst f
 exact List.mem_map.2 ⟨_,List.mem_of_getElem? h,rfl⟩
theorem yN {q:Qm} {all:List Oper} {k:Nat} {w:Bool}:okQ q all k [] w:=by
 cases q with
 | none=>trivial
 | some Γ =>
  show Ul all k [] w Γ
  induction Γ with
  | nil=>trivial
  | cons e Γ h=>exact⟨.inr (.inl (λn f=>by cases f)),h⟩
theorem Lc {q:Qm} {all:List Oper} {k:Nat} {T f:List Nm} {w:Bool} (hs:∀m∈f,m∈T) (h:okQ q all k T w):okQ q all k f w:=by
 cases q with
 | none=>trivial
 | some Γ =>
  simp only [okQ]at h ⊢
  induction Γ with
  | nil=>trivial
  | cons e Γ o=>exact⟨h.1.imp id (λh=>h.imp (λh n j=>h n (hs n j)) id),o h.2⟩
theorem okQ_add {q:Qm} {all rest:List Oper} {k tk:Nat} {T:List Nm} {n:Nm} (h:okQ q all k T true) (ho:oldQ q tk rest) (o:¬LQ tk rest n):okQ q all k (T++[n]) true:=by
 cases q with
 | none=>trivial
 | some Γ =>
  simp only [oldQ]at ho
  simp only [okQ]at h ⊢
  induction Γ with
  | nil=>trivial
  | cons e Γ j =>
   refine⟨?_,j h.2 (λe he=>ho e (by simp [he]))⟩
   rcases h.1 with⟨h1,_⟩|h1|h1
   ·cases h1
   ·refine .inr (.inl (λm f he => ?_))
    rcases List.mem_append.1 f with f|f
    ·exact h1 m f he
    ·rw [List.mem_singleton]at f;subst f;exact o (ho e (by simp) m he)
   ·exact .inr (.inr h1)
theorem Gst.at_tick {a b:St} (h:Gst a b) (t:Nat):Gst ⟨a.slots,a.store,t⟩ ⟨b.slots,b.store,t⟩:=by
 induction h with
 | refl σ=>exact .refl _
 | forget σ ks=>exact .forget ⟨σ.slots,σ.store,t⟩ ks
 | froz σ n=>exact .froz ⟨σ.slots,σ.store,t⟩ n
 | co σ k=>exact .co ⟨σ.slots,σ.store,t⟩ k
 | coB σ n sz cs h=>exact .coB ⟨σ.slots,σ.store,t⟩ n sz cs h
 | coM σ n sz cs f h hl hc=>exact .coM ⟨σ.slots,σ.store,t⟩ n sz cs f h hl hc
 | shr σ n sz m xs h=>exact .shr ⟨σ.slots,σ.store,t⟩ n sz m xs h
 | pm σ n h=>exact .pm ⟨σ.slots,σ.store,t⟩ n h
 | trans _ _ h1 h2=>exact h1.trans h2
theorem h_ghost {o:Oper} {sl':Nat->V} {F:Hp} (O:∀{c:Code} {Q:QH},wH C c Q sl' F->wH C c Q sl H) (hn:F.map (·.1)=H.map (·.1)) (h:aZ none C all K (o::rest) sl' F):aZ none C all K (o::rest) sl H:=λS tk ok j=>by
 have W:wH C .skip (λ_ f L=>f=sl'/\L=F) sl H:=O (av ⟨rfl,rfl⟩)
 have I:Ag H S (tk+1):=⟨Nat.succ_pos _,j.nd,λp B=>⟨by rcases (j.at_ p B).1 with h1 | ⟨h1,_⟩ <;> omega,(j.at_ p B).2⟩⟩
 obtain ⟨σ,Z,L,A,hs,rfl⟩:=W rfl S (tk+1) I
 have M:=Z.at_tick tk
 subst hs
 have ag3:AgR L σ.store tk (o::rest):=⟨j.pos,A.nd,λp B=>by
  have Y:p.1∈H.map (·.1):=by rw [<- hn];exact List.mem_map.2 ⟨p,B,rfl⟩
  obtain ⟨p',N,he⟩:=List.mem_map.1 Y
  exact⟨by rw [<- he];exact (j.at_ p' N).1,(A.at_ p B).2⟩⟩
 have:=h σ.store tk ok ag3
 show FN _ _ _ _ (o::rest) sl S
 obtain ⟨f,T,J,R⟩:=this
 exact⟨f,T,M.trans J,R⟩
theorem Oj {o:Oper} (J:aQ all sl o=some true)
  (j:∀S tk (F:Eff->Prop),uN C (o::rest)->AgR H S tk (o::rest)->(∀A f,AgR f (fu S A.upd) tk rest->aZ none C all K rest (dI sl o.dst A.val) f->F A)->opD C o sl S tk F):aZ none C all K (o::rest) sl H:=λS tk ok I=>by
 refine⟨sl,S,.refl _,?_⟩
 simp only [J]
 exact .inl (j S tk _ ok I (λA f B h=>h _ tk ok.tail B))
theorem h_nileq {α:Type} {enc:α->List D} {xs:List α} {dst:Option Tmp} {t ty j e:TypeId} {x:Operand} {pos:String} {after:Array Edge} {g:Option (Nat×Bool)} (F:C.P.underlying t=some (.slice e)) (o:ev sl x = .d (.sl (xs.map enc)))
  (B:aQ all sl ⟨dst,.binOp .eql t x (.const (.slice none 0 0)) j,ty,pos,after,g⟩=some true)
  (h:∀b:Bool,(b=true->xs=[])->aZ none C all K rest (dI sl dst (.d (.bool b))) H):aZ none C all K (⟨dst,.binOp .eql t x (.const (.slice none 0 0)) j,ty,pos,after,g⟩::rest) sl H:=λS tk ok A=>by
 refine⟨sl,S,.refl _,?_⟩
 simp only [B]
 refine .inr ⟨xs.map enc,e,o,F,λb hb=>h b (λf => ?_) S tk ok.tail A.tail⟩
 cases xs with
 | nil=>rfl
 | cons x xs=>have:=hb (by simp);rw [this]at f;cases f
end
end Go.Eng

/-
  THE ENGINE: loads, stores and fields by the facts of a type; what a naming leaves alone.
-/
namespace Go.Eng
set_option linter.unusedSectionVars false
variable [DM]
set_option linter.unusedVariables false
def Np (agg:Bool) (size:Nat) (n:Nm) (i j:Nat):Option Box->Option Eff
 | some (.vec sz xs)=>match xs[i]? with
  | some cs=>(rdD agg size (cs.drop j)).map λv=>⟨[(n,.vec sz xs)],[],v⟩
  | none=>none
 | some (.froz sz xs)=>match xs[i]? with
  | some cs=>(rdD agg size (cs.drop j)).map λv=>⟨[(n,.froz sz xs)],[],v⟩
  | none=>none
 | some (.cells sz cs)=>(rdV agg size (cs.drop (i*sz+j))).map λv=>⟨[(n,.cells sz cs)],[],v⟩
 | _=>none
theorem EH {P:Program} {t:TypeId} {agg:Bool} {size:Nat} (h1:szT P t=some size) (h2:bU P t=agg) (S:Store) (n:Nm) (i j:Nat):vN P t S (.ref n i j)=Np agg size n i j (S n):=by
 simp only [vN,h1,h2,Np]
 cases S n with
 | none=>rfl
 | some b=>cases b <;> rfl
theorem OD {P:Program} {t:TypeId} {agg:Bool} {size:Nat} (h1:szT P t=some size) (h2:bU P t=agg) (S:Store) (cs:List D):vN P t S (.d (.ptr cs))=(rdD agg size cs).bind gJ:=by
 simp only [vN,h1,h2]
def Kh (size:Nat) (n:Nm) (i j:Nat) (x:V):Option Box->Option Eff
 | some (.cells sz cs) =>
  bif Nat.beq (bH x).length size&&Nat.ble (i*sz+j+size) cs.length&&(bH x).all lq&&Nat.blt sz 1048576 then
   some ⟨[(n,.cells sz cs)],[(n,some (.cells sz (splice cs (bH x) (i*sz+j))))],.none⟩
  else none
 | some (.vec sz xs)=>match xs[i]?,ve (bH x)with
  | some cs,some new =>
   bif Nat.beq new.length size&&Nat.ble (j+size) cs.length&&(bH x).all lq then
    some ⟨[(n,.vec sz xs)],[(n,some (.vec sz (xs.set i (splice cs new j))))],.none⟩
   else none
  | _,_=>none
 | _=>none
theorem IY {P:Program} {t:TypeId} {size:Nat} (h1:szT P t=some size) (S:Store) (n:Nm) (i j:Nat) (x:V):yY P t S (.ref n i j) x=Kh size n i j x (S n):=by
 simp only [yY,h1,Kh]
 cases S n with
 | none=>rfl
 | some b=>cases b <;> rfl
theorem GM {P:Program} {t:TypeId} {f off s:Nat} (h:bB P t f=some (off,s+1)) (n:Nm) (i j:Nat):kR P t (.ref n i j) f=some ⟨[],[],.ref n i (j+off)⟩:=by
 unfold bB at h
 unfold kR
 cases hf:Ap P t f with
 | none=>rw [hf]at h;cases h
 | some A =>
  simp only [hf,Option.map_eq_some_iff]at h
  obtain ⟨o,h1,h2⟩:=h
  cases h2
  simp only [h1];rfl
theorem FH {P:Program} {t:TypeId} {f off s:Nat} (h:bB P t f=some (off,s+1)) (cs:List D):kR P t (.d (.ptr cs)) f=bif Nat.ble off cs.length then some ⟨[],[],.d (.ptr (cs.drop off))⟩else none:=by
 unfold bB at h
 unfold kR
 cases hf:Ap P t f with
 | none=>rw [hf]at h;cases h
 | some o =>
  simp only [hf,Option.map_eq_some_iff]at h
  obtain ⟨j,h1,h2⟩:=h
  cases h2
  simp only [h1];rfl
def QZ (size:Nat) (x:V) (i:Int):Option Eff:=match x with
 | .d (.sl xs)=>match xs[i.toNat]? with
  | some cs=>bif Nat.beq cs.length size then gJ (.d (.ptr cs))else none
  | none=>none
 | .vs n sz k len=>bif Nat.ble (i.toNat+1) len&&Nat.beq sz size then gJ (.ref n (k+i.toNat) 0)else none
 | _=>none
theorem BX {P:Program} {t:TypeId} {size:Nat} (h:(bG P t).bind (szT P)=some size) (x:V) (k:IntKind) (i:Int):ko P t x (.d (.int k i))=bif decide (0<=i)then QZ size x i else none:=by
 simp only [ko,h,QZ]
 rfl
theorem idxB_sl {size:Nat} {xs:List (List D)} {i:Int} {cs:List D} (h:xs[i.toNat]? = some cs) (hl:cs.length=size):QZ size (.d (.sl xs)) i=some ⟨[],[],.d (.ptr cs)⟩:=by
 subst hl
 simp only [QZ,h,Nat.beq_refl,cond_true];rfl
theorem idxB_vs {size:Nat} {n:Nm} {k len:Nat} {i:Int} (h:i.toNat<len):QZ size (.vs n size k len) i=some ⟨[],[],.ref n (k+i.toNat) 0⟩:=by
 simp only [QZ,Nat.beq_refl,Bool.and_true,Nat.ble_eq_true_of_le h,cond_true];rfl
theorem F5 (l:List Box) (i:Nat):kX l (aA i)=l[i]? := by simp only [kX,vX]
theorem wC {ρ:List Nm} {v:V} (h:okV 0 v=true):ren ρ v=v :=
 CO ρ 0 (λn f=>by obtain ⟨i,hi,_⟩:=wW f;exact absurd hi (Nat.not_lt_zero i)) _ h
theorem KM {ρ:List Nm} {vs:List V} (h:okL 0 vs=true):renL ρ vs=vs :=
 yM ρ 0 (λn f=>by obtain ⟨i,hi,_⟩:=wW f;exact absurd hi (Nat.not_lt_zero i)) _ h
theorem vG {ρ:List Nm} {b:Box} (h:b.ok 0=true):b.ren ρ=b:=by
 cases b with
 | cells sz cs=>simp only [Box.ok]at h;simp only [Box.ren,KM h]
 | pmap es =>
  simp only [Box.ren,Box.pmap.injEq]
  exact (List.map_congr_left (λe he=>by rw [wC (List.all_eq_true.1 h e he)];rfl)).trans (List.map_id _)
 | iter cur left =>
  simp only [Box.ok,Bool.and_eq_true]at h
  simp only [Box.ren,Box.iter.injEq]
  refine⟨?_,(List.map_congr_left (λe he=>by rw [wC (List.all_eq_true.1 h.2 e he)];rfl)).trans (List.map_id _)⟩
  cases cur with
  | none=>rfl
  | some x=>simp only [Option.map_some,wC (v:=x.2) (by simpa using h.1)]
 | _=>rfl
theorem Hw {k k':Nat} (h:k<=k') {n:Nm} (f:okN k n=true):okN k' n=true:=by
 unfold okN at *
 split
 ·rename_i i hi
  rw [hi]at f
  have h1:Nat.blt i k=true:=f
  simp only [Nat.blt_eq]at h1 ⊢
  omega
 ·rename_i hi;rw [hi]at f;exact f
mutual
theorem xc {k k':Nat} (h:k<=k'):∀(v:V),okV k v=true->okV k' v=true
 | .ref n i j,o=>by simp only [okV]at *;exact Hw h o
 | .vs n sz a len,o=>by simp only [okV]at *;exact Hw h o
 | .map n,o=>by simp only [okV]at *;exact Hw h o
 | .fn f caps,o=>by simp only [okV]at *;exact wI h caps o
 | .agg cs,o=>by simp only [okV]at *;exact wI h cs o
 | .tup vs,o=>by simp only [okV]at *;exact wI h vs o
 | .d _,_=>rfl
 | .nil,_=>rfl
 | .nilm,_=>rfl
 | .nili,_=>rfl
 | .none,_=>rfl
 | .any,_=>rfl
theorem wI {k k':Nat} (h:k<=k'):∀(vs:List V),okL k vs=true->okL k' vs=true
 | [],_=>rfl
 | v::vs,f=>by
  simp only [okL,Bool.and_eq_true]at *
  exact⟨xc h v f.1,wI h vs f.2⟩
end
theorem Box.ok_mono {k k':Nat} (h:k<=k') {b:Box} (hb:b.ok k=true):b.ok k'=true:=by
 cases b with
 | cells sz cs=>exact wI h cs hb
 | pmap es=>exact List.all_eq_true.2 (λe he=>xc h _ (List.all_eq_true.1 hb e he))
 | iter cur left =>
  simp only [Box.ok,Bool.and_eq_true]at hb ⊢
  refine⟨?_,List.all_eq_true.2 (λe he=>xc h _ (List.all_eq_true.1 hb.2 e he))⟩
  cases cur with
  | none=>rfl
  | some x=>exact xc h _ (by simpa using hb.1)
 | _=>rfl
theorem Ih {i k:Nat} (h:i<k):okN k (aA i)=true:=by simp only [okN,vX];simpa [Nat.blt_eq]using h
end Go.Eng

/-
  THE ENGINE: the rules for single operations over a list of known boxes.
-/
namespace Go.Eng
set_option linter.unusedSectionVars false
variable [DM]
set_option linter.unusedVariables false
abbrev w64 (n:Int):Int:=IntKind.i64.wrap n
abbrev vI (n:Int):V := .d (.int .i64 n)
abbrev vB (b:Bool):V := .d (.bool b)
abbrev vS (s:ByteArray):V := .d (.str s)
abbrev dl {α:Type} (enc:α->List D) (xs:List α):D := .sl (xs.map enc)
abbrev vL {α:Type} (enc:α->List D) (xs:List α):V := .d (.sl (xs.map enc))
abbrev vV {α:Type} (n:Nm) (sz:Nat) (xs:List α):V := .vs n sz 0 xs.length
abbrev bV {α:Type} (sz:Nat) (enc:α->List D) (xs:List α):Box := .vec sz (xs.map enc)
abbrev bF {α:Type} (sz:Nat) (enc:α->List D) (xs:List α):Box := .froz sz (xs.map enc)
def gV {α:Type} (n:Nm) (sz:Nat):List α->V
 | [] => .nil
 | x::xs => .vs n sz 0 (x::xs).length
def gB {α:Type} (sz:Nat) (enc:α->List D):List α->Option Box
 | []=>none
 | x::xs=>some (.vec sz ((x::xs).map enc))
def gF {α:Type} (sz:Nat) (enc:α->List D):List α->Option Box
 | []=>none
 | x::xs=>some (.froz sz ((x::xs).map enc))
def eI (n:Int):List D:=[.int .i64 n]
def eS (s:ByteArray):List D:=[.str s]
def eB (b:Bool):List D:=[.bool b]
def idx {α:Type} (xs:List α) (i:Int):Option α:=if 0<=i then xs[i.toNat]? else none
section
variable {C:Cfg} {sl:Nat->V} {H:Hp} {q:Qm} {all rest:List Oper} {K:(Nat->V)->Hp->Prop}
variable {dst:Option Tmp} {d:Nat} {t ty:TypeId} {pos:String} {after:Array Edge} {g:Option (Nat×Bool)}
theorem wz {op:Op}:aQ all sl ⟨dst,op,ty,pos,after,none⟩=some true:=rfl
theorem wg {j:Nat} {f b:Bool} {c:Bool} {o:Nat} {op:Op} (h1:(all[j]?).bind (·.dst)=some o) (h2:sl o = .d (.bool b)) (h:(b==f)=c):aQ all sl ⟨dst,op,ty,pos,after,some (j,f)⟩=some c:=by
 subst h;simp only [aQ,h1,h2]
theorem wa {j:Nat} {f b:Bool} {c:Bool} {o:Nat} {op:Op} (h1:(all[j]?).bind (·.dst)=some o:=by rfl) (h2:sl o = .d (.bool b):=by rfl) (h:(b==f)=c:=by rfl):aQ all sl ⟨dst,op,ty,pos,after,some (j,f)⟩=some c:=wg h1 h2 h
theorem wn {j:Nat} {f:Bool} {h:Nat} {op:Op} (h1:(all[j]?).bind (·.dst)=some h) (h2:sl h = .none):aQ all sl ⟨dst,op,ty,pos,after,some (j,f)⟩=some false:=by
 simp only [aQ,h1,h2]
def Fz (C:Cfg) (sl:Nat->V):Op->Option V
 | .move x | .assign x=>some (ev sl x)
 | .pick c a b=>RF (ev sl c) (ev sl a) (ev sl b)
 | .nilCheck x=>Bt (ev sl x)
 | .binOp op t x y _=>C9 C.P op t x y (ev sl x) (ev sl y)
 | .unOp op _ x=>unF op (ev sl x)
 | .convert s t x=>zz C.P s t (ev sl x)
 | .makeFunc (.func f) first h=>bif Nat.beq first.size 0 then some (.fn f (h.toList.map (ev sl)))else none
 | .slice t x lo hi mx=>mE C.P t (ev sl x) (lo.map (ev sl)) (hi.map (ev sl)) (mx.map (ev sl))
 | .field t x f=>Km C.P t (ev sl x) f
 | .index t x i=>Ao C.P t (ev sl x) (ev sl i)
 | .extract x i=>Dr (ev sl x) i
 | .build t parts=>bif (parts.toList.map λp=>(p.1,ev sl p.2)).all (λp=>(bH p.2).all lq)then KW C.P t (parts.toList.map λp=>(p.1,ev sl p.2))else none
 | _=>none
theorem SA {op:Op} {v:V} (h:Fz C sl op=some v) (S:Store) (tk:Nat) (A:Eff->Prop) (B:A ⟨[],[],v⟩):opD C ⟨dst,op,ty,pos,after,g⟩ sl S tk A:=by
 have fin:(∀c,op ≠ .call c)->ry C ⟨dst,op,ty,pos,after,g⟩ sl S tk=(Fz C sl op).bind gJ->opD C ⟨dst,op,ty,pos,after,g⟩ sl S tk A:=by
  intro hc e
  have e':ry C ⟨dst,op,ty,pos,after,g⟩ sl S tk=some ⟨[],[],v⟩:=by rw [e,h];rfl
  unfold opD
  split
  ·rename_i c o;exact absurd o (hc c)
  ·rw [e'];exact B
 have j:(∀c,op ≠ .call c)->(∃b,ry C ⟨dst,op,ty,pos,after,g⟩ sl S tk=orE ((Fz C sl op).bind gJ) b)->opD C ⟨dst,op,ty,pos,after,g⟩ sl S tk A:=by
  intro hc ⟨b,e⟩
  have e':ry C ⟨dst,op,ty,pos,after,g⟩ sl S tk=some ⟨[],[],v⟩:=by rw [e,h];rfl
  unfold opD
  split
  ·rename_i c o;exact absurd o (hc c)
  ·rw [e'];exact B
 cases op <;> first | (refine fin (λc e=>by cases e) ?_;rfl) | (cases h;done) | skip
 case convert s t x=>exact j (λc e=>by cases e) ⟨uH C.P s t S (ev sl x),rfl⟩
 case slice t x lo hi mx=>exact j (λc e=>by cases e) ⟨nR C.P t S (ev sl x) (lo.map (ev sl)) (hi.map (ev sl)) (mx.map (ev sl)),rfl⟩
 case build t parts =>
  refine fin (λc e=>by cases e) ?_
  simp only [Fz]at h ⊢
  simp only [ry]
  cases hb:(parts.toList.map λp=>(p.1,ev sl p.2)).all (λp=>(bH p.2).all lq)with
  | true=>simp only [cond_true]
  | false=>simp only [hb,cond_false]at h;cases h
 case makeFunc fn first captured =>
  cases fn with
  | func f =>
   refine fin (λc e=>by cases e) ?_
   simp only [Fz]at h ⊢
   simp only [ry]
   cases hb:Nat.beq first.size 0 with
   | true=>simp only [cond_true];rfl
   | false=>simp only [hb,cond_false]at h;cases h
  | _=>cases h
theorem aL {op:Op} (v:V) (f:aQ all sl ⟨dst,op,ty,pos,after,g⟩=some true) (j:Fz C sl op=some v)
  (h:aZ q C all K rest (dI sl dst v) H):aZ q C all K (⟨dst,op,ty,pos,after,g⟩::rest) sl H :=
 om f (λS tk A _ o=>SA j S tk A (o _ rfl rfl rfl)) h
theorem aH {x:Operand} {c b:Bool} (f:ev sl x = .d (.bool c)) (hc:c=b) (j:aQ all sl ⟨dst,.move x,ty,pos,after,g⟩=some true)
  (h:aZ q C all K rest (dI sl dst (vB b)) H):aZ q C all K (⟨dst,.move x,ty,pos,after,g⟩::rest) sl H :=
 aL (vB b) j (by show some (ev sl x)=_;rw [f,hc]) h
end
end Go.Eng

/-
  THE ENGINE: the rules for operations over memory.
-/
namespace Go.Eng
set_option linter.unusedSectionVars false
variable [DM]
set_option linter.unusedVariables false
section
variable {C:Cfg} {sl:Nat->V} {H:Hp} {q:Qm} {all rest:List Oper} {K:(Nat->V)->Hp->Prop}
variable {dst:Option Tmp} {d:Nat} {t ty:TypeId} {pos:String} {after:Array Edge} {g:Option (Nat×Bool)}
theorem AgR.get {S:Store} {tk:Nat} {l:List Oper} (f:AgR H S tk l) {i:Nat} {n:Nm} {b:Box} (h:H[i]? = some (n,some b)):S n=some b :=
  (f.at_ _ (List.mem_of_getElem? h)).2 b rfl
theorem AgR.set {S:Store} {tk:Nat} {l:List Oper} (o:AgR H S tk l) {i:Nat} {n:Nm} {B b:Option Box} {b':Option Box} (h:H[i]? = some (n,B)) (hb:∀x,b=some x->b'=some x):AgR (H.set i (n,b)) (supd S n b') tk l:=by
  have hi:i<H.length:=by
    have:=List.getElem?_eq_some_iff.1 h
    exact this.1
  have he:H[i]=(n,B):=by have:=List.getElem?_eq_some_iff.1 h;exact this.2
  have F:(H.set i (n,b)).map (·.1)=H.map (·.1):=by
    apply List.ext_getElem
    · simp
    · intro j h1 h2
      simp only [List.length_map]at h2
      simp only [List.getElem_map,List.getElem_set]
      split
      · rename_i e;subst e;rw [he]
      · rfl
  refine⟨o.pos,by rw [F];exact o.nd,λp I => ?_⟩
  obtain ⟨j,hj,rfl⟩:=List.getElem_of_mem I
  simp only [List.length_set]at hj
  simp only [List.getElem_set]
  split
  · rename_i e;subst e
    have:=o.at_ (n,B) (by rw [<- he];exact List.getElem_mem hi)
    exact⟨this.1,λx A=>by simp only [supd,if_true];exact hb x A⟩
  · rename_i e
    have h1:=o.at_ H[j] (List.getElem_mem hj)
    refine⟨h1.1,λx A => ?_⟩
    have f:H[j].1≠n:=λf=>by
      have:=o.nd
      have h2:(H.map (·.1))[j]'(by simpa using hj)=(H.map (·.1))[i]'(by simpa using hi):=by simp [he,f]
      exact e (nT o.nd i j (by simpa using hi) (by simpa using hj) h2.symm)
    simp only [supd,if_neg f]
    exact h1.2 x A
theorem new_ne {S:Store} {tk:Nat} {o:Oper} (ok:uN C (o::rest)) (A:AgR H S tk (o::rest)) (h:o.dst=some d) (j:Nat):∀p∈H,p.1≠(d+100000*j,tk):=λp F e=>by
  have f:=(qj (ok.2 o (by simp)) h).2
  rcases (A.at_ p F).1 with h1|⟨_,h1⟩
  · rw [e]at h1;exact Nat.lt_irrefl _ h1
  · have:=h1 o (by simp)
    rw [e,h]at this
    have B:(d+100000*j) % 100000=d:=(Nat.add_mul_mod_self_left d 100000 j).trans (Nat.mod_eq_of_lt f)
    simp only [B]at this
    exact this rfl
theorem AgR.new {S:Store} {tk:Nat} {o:Oper} (ok:uN C (o::rest)) (A:AgR H S tk (o::rest)) (J:o.dst=some d) (b:Box):AgR (H++[((d,tk),some b)]) (supd S (d,tk) (some b)) tk rest:=by
  have h:=new_ne ok A J 0
  simp only [Nat.mul_zero,Nat.add_zero]at h
  have I:=(qj (ok.2 o (by simp)) J).2
  refine⟨A.pos,?_,λp f => ?_⟩
  · rw [List.map_append,List.nodup_append]
    refine⟨A.nd,by simp,λa L b hb => ?_⟩
    simp only [List.map_cons,List.map_nil,List.mem_singleton]at hb
    obtain ⟨p,f,rfl⟩:=List.mem_map.1 L
    rw [hb]
    exact h p f
  · rcases List.mem_append.1 f with f | f
    · have:=A.tail.at_ p f
      exact⟨this.1,λx B=>by simp only [supd,if_neg (h p f)];exact this.2 x B⟩
    · simp only [List.mem_singleton]at f
      subst f
      refine⟨.inr ⟨rfl,λM F j => ?_⟩,λx B=>by simp only [supd,if_true];exact B⟩
      simp only [Nat.mod_eq_of_lt I]at j
      have h1:=ok.1
      simp only [mq,J,Bool.and_eq_true]at h1
      have h2:=List.all_eq_true.1 h1.1 M F
      simp only [j,Nat.beq_refl]at h2
      cases h2
theorem vo {o:Oper} {d:Nat} (O:o.dst=some d) (k:Nat) (T:List Nm) (hk:q=none\/Nat.beq all.length (k+(rest.length+1))=true) (Y:∀S tk,AgR H S tk (o::rest)->okQ q all k T true) (R:∀m∈T,m∈H.map (·.1)) (hw:aQ all sl o=some true)
    (N:∀S tk (L:Eff->Prop),uN C (o::rest)->AgR H S tk (o::rest) ->
      (∀A J m,(m=(d,tk)\/m∈T)->((∀x∈A.req,x.1∈T++[m])/\∀x∈A.upd,x.1∈T++[m])->AgR J (fu S A.upd) tk rest->aZ (pK q k (T++[m]) true) C all K rest (dI sl o.dst A.val) J->L A)->opD C o sl S tk L) :
    aZ q C all K (o::rest) sl H :=
  LZ k true hk hw (λS tk L ok F hO Z=>by
    have M:=(qj (ok.2 o (by simp)) O).2
    have I:¬LQ tk (o::rest) (d,tk):=by
      rintro (h|⟨_,h⟩)
      · exact Nat.lt_irrefl _ h
      · have:=h o (by simp)
        simp only [O,Nat.mod_eq_of_lt M,ne_eq,not_true]at this
    refine N S tk L ok F (λA J m B h1 h3 h4=>Z A J (T++[m]) ?_ (λm' f => ?_) h1 (λe=>by cases e) h3 h4)
    · rcases B with rfl | B
      · exact okQ_add (Y S tk F) hO I
      · exact Lc (λx j=>(List.mem_append.1 j).elim id (λj=>by rw [List.mem_singleton]at j;rw [j];exact B)) (Y S tk F)
    · have W:∀x∈T,LQ tk rest x:=λx j=>(F.old (R x j)).tail
      rcases List.mem_append.1 f with f|f
      · exact W _ f
      · rw [List.mem_singleton]at f;subst f
        rcases B with rfl|B
        · exact ((F.new ok O (.cells 0 [])).at_ ((d,tk),some (.cells 0 [])) (by simp)).1
        · exact W _ B)
theorem zk {b:Builtin} {args:Array Operand} {f:Array TypeId} {S:Store} {tk:Nat} {j:Eff->Prop} {A:Eff} (h:wQ C.P b f.toList (args.toList.map (ev sl)) S dst tk=some A) (o:j A) :
    opD C ⟨dst,.call ⟨.builtin b,args,f⟩,ty,pos,after,g⟩ sl S tk j:=by
  show (match ry C _ sl S tk with | some A=>j A | none=>False)
  have e:ry C ⟨dst,.call ⟨.builtin b,args,f⟩,ty,pos,after,g⟩ sl S tk=some A:=h
  rw [e];exact o
theorem Ei {x:Operand} {v:V} (hl:FW C.P t (ev sl x)=some v) (f:aQ all sl ⟨dst,.call ⟨.builtin .len,#[x],#[t]⟩,ty,pos,after,g⟩=some true) (h:aZ q C all K rest (dI sl dst v) H) :
    aZ q C all K (⟨dst,.call ⟨.builtin .len,#[x],#[t]⟩,ty,pos,after,g⟩::rest) sl H :=
  om f (λS tk B _ o=>zk (A:=⟨[],[],v⟩) (by
    have j:Gx (ev sl x)=false:=by
      cases hx:ev sl x with
      | map n=>rw [hx]at hl;unfold FW at hl;split at hl <;> first | (cases hl;done) | simp_all
      | _=>rfl
    show (bif Gx (ev sl x)then BA C.P t S (ev sl x)else (FW C.P t (ev sl x)).bind gJ)=_
    rw [j,cond_false,hl];rfl) (o _ rfl rfl rfl)) h
theorem bA {α:Type} {enc:α->List D} {xs:List α} {x:Operand} {e:TypeId} (o:C.P.underlying t=some (.slice e)) (f:ev sl x=vL enc xs) (j:aQ all sl ⟨dst,.call ⟨.builtin .len,#[x],#[t]⟩,ty,pos,after,g⟩=some true)
    (h:aZ q C all K rest (dI sl dst (vI xs.length)) H):aZ q C all K (⟨dst,.call ⟨.builtin .len,#[x],#[t]⟩,ty,pos,after,g⟩::rest) sl H :=
  Ei (by rw [f];simp only [FW,o,List.length_map]) j h
theorem CF {s:ByteArray} {x:Operand} (j:C.P.underlying t=some .string) (f:ev sl x=vS s) (o:aQ all sl ⟨dst,.call ⟨.builtin .len,#[x],#[t]⟩,ty,pos,after,g⟩=some true)
    (h:aZ q C all K rest (dI sl dst (vI s.size)) H):aZ q C all K (⟨dst,.call ⟨.builtin .len,#[x],#[t]⟩,ty,pos,after,g⟩::rest) sl H :=
  Ei (by rw [f];simp only [FW,j]) o h
theorem RB {α:Type} {n:Nm} {sz:Nat} {xs:List α} {x:Operand} {e:TypeId} (o:C.P.underlying t=some (.slice e)) (f:ev sl x=vV n sz xs) (j:aQ all sl ⟨dst,.call ⟨.builtin .len,#[x],#[t]⟩,ty,pos,after,g⟩=some true)
    (h:aZ q C all K rest (dI sl dst (vI xs.length)) H):aZ q C all K (⟨dst,.call ⟨.builtin .len,#[x],#[t]⟩,ty,pos,after,g⟩::rest) sl H :=
  Ei (by rw [f];simp only [FW,o]) j h
theorem Ct {α:Type} {n:Nm} {sz:Nat} {xs:List α} {x:Operand} {e:TypeId} (o:C.P.underlying t=some (.slice e)) (f:ev sl x=gV n sz xs) (j:aQ all sl ⟨dst,.call ⟨.builtin .len,#[x],#[t]⟩,ty,pos,after,g⟩=some true)
    (h:aZ q C all K rest (dI sl dst (vI xs.length)) H):aZ q C all K (⟨dst,.call ⟨.builtin .len,#[x],#[t]⟩,ty,pos,after,g⟩::rest) sl H :=
  Ei (by rw [f];cases xs <;> simp [FW,o,gV]) j h
theorem tY {b:Builtin} {args:Array Operand} {f:Array TypeId} (v:V) (o:wQ C.P b f.toList (args.toList.map (ev sl)) (λ_=>none) none 0=some ⟨[],[],v⟩) (hb:b = .min\/b = .max) (j:aQ all sl ⟨dst,.call ⟨.builtin b,args,f⟩,ty,pos,after,g⟩=some true)
    (h:aZ q C all K rest (dI sl dst v) H):aZ q C all K (⟨dst,.call ⟨.builtin b,args,f⟩,ty,pos,after,g⟩::rest) sl H :=
  om j (λS tk F _ B=>zk (A:=⟨[],[],v⟩) (by rcases hb with rfl | rfl <;> exact o) (B _ rfl rfl rfl)) h
theorem jb {op:Op} {S:Store} {tk:Nat} {j:Eff->Prop} {A:Eff} (hc:∀c,op ≠ .call c) (h:ry C ⟨dst,op,ty,pos,after,g⟩ sl S tk=some A) (o:j A):opD C ⟨dst,op,ty,pos,after,g⟩ sl S tk j:=by
  unfold opD
  split
  · rename_i c f;exact absurd f (hc c)
  · rw [h];exact o
theorem orE_l {a b:Option Eff} {A:Eff} (h:a=some A):orE a b=some A:=by rw [h];rfl
theorem dC {α:Type} {enc:α->List D} {xs:List α} {x i:Operand} {k:IntKind} {n:Int} {y:α} {size:Nat} (F:(bG C.P t).bind (szT C.P)=some size) (j:ev sl x=vL enc xs) (hi:ev sl i = .d (.int k n)) (f:idx xs n=some y) (hl:(enc y).length=size)
    (o:aQ all sl ⟨dst,.indexAddr t x i,ty,pos,after,g⟩=some true) (h:aZ q C all K rest (dI sl dst (.d (.ptr (enc y)))) H):aZ q C all K (⟨dst,.indexAddr t x i,ty,pos,after,g⟩::rest) sl H :=
  om o (λS tk J _ I=>jb (A:=⟨[],[],.d (.ptr (enc y))⟩) (λc e=>by cases e) (by
    show orE (ko C.P t (ev sl x) (ev sl i)) _=_
    refine orE_l ?_
    unfold idx at f
    split at f
    · rename_i B
      rw [j,hi,BX F,decide_eq_true B]
      exact idxB_sl (by rw [List.getElem?_map,f];rfl) hl
    · cases f) (I _ rfl rfl rfl)) h
theorem zK {x i:Operand} {k:IntKind} {n:Int} {nm:Nm} {j len size:Nat} (F:(bG C.P t).bind (szT C.P)=some size) (f:ev sl x = .vs nm size j len) (hi:ev sl i = .d (.int k n)) (B:0<=n) (h1:n.toNat<len)
    (o:aQ all sl ⟨dst,.indexAddr t x i,ty,pos,after,g⟩=some true) (h:aZ q C all K rest (dI sl dst (.ref nm (j+n.toNat) 0)) H):aZ q C all K (⟨dst,.indexAddr t x i,ty,pos,after,g⟩::rest) sl H :=
  om o (λS tk J _ I=>jb (A:=⟨[],[],.ref nm (j+n.toNat) 0⟩) (λc e=>by cases e) (by
    show orE (ko C.P t (ev sl x) (ev sl i)) _=_
    refine orE_l ?_
    rw [f,hi,BX F,decide_eq_true B]
    exact idxB_vs h1) (I _ rfl rfl rfl)) h
theorem qf {x:Operand} {f off s:Nat} {cs:List D} (pl:bB C.P t f=some (off,s+1)) (o:ev sl x = .d (.ptr cs)) (v:List D) (F:cs.drop off=v) (j:Nat.ble off cs.length=true)
    (B:aQ all sl ⟨dst,.fieldAddr t x f,ty,pos,after,g⟩=some true) (h:aZ q C all K rest (dI sl dst (.d (.ptr v))) H):aZ q C all K (⟨dst,.fieldAddr t x f,ty,pos,after,g⟩::rest) sl H :=
  om B (λS tk J _ I=>jb (A:=⟨[],[],.d (.ptr v)⟩) (λc e=>by cases e) (by
    show kR C.P t (ev sl x) f=_
    rw [o,FH pl,j,F];rfl) (I _ rfl rfl rfl)) h
theorem aK {x:Operand} {f off s:Nat} {n:Nm} {i j:Nat} (pl:bB C.P t f=some (off,s+1)) (B:ev sl x = .ref n i j) (o:Nat) (hj:j+off=o)
    (F:aQ all sl ⟨dst,.fieldAddr t x f,ty,pos,after,g⟩=some true) (h:aZ q C all K rest (dI sl dst (.ref n i o)) H):aZ q C all K (⟨dst,.fieldAddr t x f,ty,pos,after,g⟩::rest) sl H :=
  om F (λS tk J _ I=>jb (A:=⟨[],[],.ref n i o⟩) (λc e=>by cases e) (by
    show kR C.P t (ev sl x) f=_
    rw [B,GM pl,hj]) (I _ rfl rfl rfl)) h
theorem bD {x:Operand} {size:Nat} {agg:Bool} {cs:List D} (hs:szT C.P t=some size) (F:bU C.P t=agg) (f:ev sl x = .d (.ptr cs)) (v:V) (o:rdD agg size cs=some v)
    (j:aQ all sl ⟨dst,.load t x,ty,pos,after,g⟩=some true) (h:aZ q C all K rest (dI sl dst v) H):aZ q C all K (⟨dst,.load t x,ty,pos,after,g⟩::rest) sl H :=
  om j (λS tk I _ B=>jb (A:=⟨[],[],v⟩) (λc e=>by cases e) (by
    show vN C.P t S (ev sl x)=_
    rw [f,OD hs F,o];rfl) (B _ rfl rfl rfl)) h
theorem aI {x:Operand} {size:Nat} {agg:Bool} {n:Nm} {i j sz:Nat} {cs:List V} (p k:Nat) (M:q=none\/Nat.beq all.length (p+(rest.length+1))=true) (J:∀S tk,AgR H S tk (⟨dst,.load t x,ty,pos,after,g⟩::rest)->okQ q all p [n] false) (hs:szT C.P t=some size) (I:bU C.P t=agg) (B:ev sl x = .ref n i j) (o:H[k]? = some (n,some (.cells sz cs))) (v:V) (L:rdV agg size (cs.drop (i*sz+j))=some v)
    (F:aQ all sl ⟨dst,.load t x,ty,pos,after,g⟩=some true) (h:aZ (pK q p [n] false) C all K rest (dI sl dst v) H):aZ q C all K (⟨dst,.load t x,ty,pos,after,g⟩::rest) sl H :=
  og p [n] false M J (wL o) F (λS tk O ok f N=>jb (A:=⟨[(n,.cells sz cs)],[],v⟩) (λc e=>by cases e) (by
    show vN C.P t S (ev sl x)=_
    rw [B,EH hs I,f.get o]
    simp only [Np,L,Option.map_some]) (N _ H ⟨by simp,by simp⟩ (λ_=>rfl) f.tail h))
theorem EW {α:Type} {enc:α->List D} {xs:List α} {y:α} {x:Operand} {size:Nat} {agg:Bool} {n:Nm} {i j sz:Nat} (p k:Nat) (M:q=none\/Nat.beq all.length (p+(rest.length+1))=true) (J:∀S tk,AgR H S tk (⟨dst,.load t x,ty,pos,after,g⟩::rest)->okQ q all p [n] false) (hs:szT C.P t=some size) (I:bU C.P t=agg) (B:ev sl x = .ref n i j) (o:H[k]? = some (n,some (bV sz enc xs))) (O:xs[i]? = some y)
    (v:V) (L:rdD agg size ((enc y).drop j)=some v)
    (F:aQ all sl ⟨dst,.load t x,ty,pos,after,g⟩=some true) (h:aZ (pK q p [n] false) C all K rest (dI sl dst v) H):aZ q C all K (⟨dst,.load t x,ty,pos,after,g⟩::rest) sl H :=
  og p [n] false M J (wL o) F (λS tk R ok f N=>jb (A:=⟨[(n,bV sz enc xs)],[],v⟩) (λc e=>by cases e) (by
    show vN C.P t S (ev sl x)=_
    rw [B,EH hs I,f.get o]
    simp only [Np,List.getElem?_map,O,Option.map_some,L]) (N _ H ⟨by simp,by simp⟩ (λ_=>rfl) f.tail h))
def stC (size:Nat) (cs:List V) (o:Nat) (x:V):Option (List V):=bif Nat.beq (bH x).length size&&Nat.ble (o+size) cs.length&&(bH x).all lq then some (splice cs (bH x) o)else none
def stD (size:Nat) (cs:List D) (o:Nat) (x:V):Option (List D):=match ve (bH x)with
  | some new=>bif Nat.beq new.length size&&Nat.ble (o+size) cs.length&&(bH x).all lq then some (splice cs new o)else none
  | none=>none
theorem jw {x y:Operand} {size:Nat} {n:Nm} {i j sz:Nat} {cs:List V} (p:Nat) (N:q=none\/Nat.beq all.length (p+(rest.length+1))=true) (M:∀S tk,AgR H S tk (⟨dst,.store t x y,ty,pos,after,g⟩::rest)->okQ q all p [n] true) (k:Nat) (hs:szT C.P t=some size) (B:ev sl x = .ref n i j) (F:H[k]? = some (n,some (.cells sz cs))) (f:List V) (o:stC size cs (i*sz+j) (ev sl y)=some f)
    (J:aQ all sl ⟨dst,.store t x y,ty,pos,after,g⟩=some true) (h:aZ (pK q p [n] true) C all K rest (dI sl dst .none) (H.set k (n,some (.cells sz f)))) (L:Nat.blt sz 1048576=true:=by rfl):aZ q C all K (⟨dst,.store t x y,ty,pos,after,g⟩::rest) sl H :=
  og p [n] true N M (wL F) J (λS tk R ok I O=>jb (A:=⟨[(n,.cells sz cs)],[(n,some (.cells sz f))],.none⟩) (λc e=>by cases e) (by
    show yY C.P t S (ev sl x) (ev sl y)=_
    rw [B,IY hs,I.get F]
    simp only [stC]at o
    simp only [Kh]
    cases hb:(Nat.beq (bH (ev sl y)).length size&&Nat.ble (i*sz+j+size) cs.length&&(bH (ev sl y)).all lq)with
    | true=>simp only [hb,L,Bool.and_self,cond_true,so_]at o ⊢;rw [o]
    | false=>simp only [hb,cond_false]at o;cases o) (O _ _ ⟨by simp,by simp⟩ (λe=>by cases e) (I.tail.set F (λx B=>B)) h))
theorem De {α:Type} {enc:α->List D} {xs:List α} {e:α} {x y:Operand} {size:Nat} {n:Nm} {i j sz:Nat} (p:Nat) (L:q=none\/Nat.beq all.length (p+(rest.length+1))=true) (J:∀S tk,AgR H S tk (⟨dst,.store t x y,ty,pos,after,g⟩::rest)->okQ q all p [n] true) (k:Nat) (hs:szT C.P t=some size) (o:ev sl x = .ref n i j) (B:H[k]? = some (n,some (bV sz enc xs))) (N:xs[i]? = some e) (e':α) (f:stD size (enc e) j (ev sl y)=some (enc e'))
    (I:aQ all sl ⟨dst,.store t x y,ty,pos,after,g⟩=some true) (h:aZ (pK q p [n] true) C all K rest (dI sl dst .none) (H.set k (n,some (bV sz enc (xs.set i e'))))):aZ q C all K (⟨dst,.store t x y,ty,pos,after,g⟩::rest) sl H :=
  og p [n] true L J (wL B) I (λS tk O ok F M=>jb (A:=⟨[(n,bV sz enc xs)],[(n,some (bV sz enc (xs.set i e')))],.none⟩) (λc e=>by cases e) (by
    show yY C.P t S (ev sl x) (ev sl y)=_
    rw [o,IY hs,F.get B]
    simp only [stD]at f
    simp only [Kh,List.getElem?_map,N,Option.map_some]
    cases hn:ve (bH (ev sl y))with
    | none=>rw [hn]at f;cases f
    | some new =>
      simp only [hn]at f ⊢
      cases hb:(Nat.beq new.length size&&Nat.ble (j+size) (enc e).length&&(bH (ev sl y)).all lq)with
      | true=>simp only [hb,cond_true,so_]at f ⊢;rw [f];simp only [bV,List.map_set]
      | false=>simp only [hb,cond_false]at f;cases f) (M _ _ ⟨by simp,by simp⟩ (λe=>by cases e) (F.tail.set B (λx o=>o)) h))
theorem dA {e:TypeId} {cs:List V} (p:Nat) (J:q=none\/Nat.beq all.length (p+(rest.length+1))=true) (I:zeroCells C.P e=some cs) (ho:cs.all lq=true) (B:aQ all sl ⟨some d,.alloc e,ty,pos,after,g⟩=some true)
    (h:∀n:Nm,aZ (pK q p [n] true) C all K rest (upd sl d (.ref n 0 0)) (H++[(n,some (.cells cs.length cs))])) (hb:BP C.P e=none:=by kernel_rfl) (j:C.vm.contains d=false:=by rfl) (f:Nat.blt cs.length 1048576=true:=by rfl):aZ q C all K (⟨some d,.alloc e,ty,pos,after,g⟩::rest) sl H :=
  vo rfl p [] J (λ_ _ _=>yN) (λm F=>by cases F) B (λS tk M ok o L=>jb (A:=⟨[],[((d,tk),some (.cells cs.length cs))],.ref (d,tk) 0 0⟩) (λc e=>by cases e) (by
    show (bif (BP C.P e).isSome then xB C.P e d tk else bif C.vm.contains d then y5 C.P e d tk else Aw C.P e d tk)=_
    rw [hb,j]
    simp only [Option.isSome_none,cond_false,Aw,I,ho,f,Bool.and_self,cond_true]) (L _ _ _ (.inl rfl) ⟨by simp,by simp⟩ (o.new ok rfl _) (h (d,tk))))
theorem gY {e:TypeId} {x:Operand} (p:Nat) (I:q=none\/Nat.beq all.length (p+(rest.length+1))=true) (cs:List V) (j:bH (ev sl x)=cs) (ho:cs.all lq=true) (B:aQ all sl ⟨some d,.box e x,ty,pos,after,g⟩=some true)
    (h:∀n:Nm,aZ (pK q p [n] true) C all K rest (upd sl d (.ref n 0 0)) (H++[(n,some (.cells cs.length cs))])) (f:Nat.blt cs.length 1048576=true:=by rfl):aZ q C all K (⟨some d,.box e x,ty,pos,after,g⟩::rest) sl H :=
  vo rfl p [] I (λ_ _ _=>yN) (λm F=>by cases F) B (λS tk L ok o J=>jb (A:=⟨[],[((d,tk),some (.cells cs.length cs))],.ref (d,tk) 0 0⟩) (λc e=>by cases e) (by
    show N9 (ev sl x) d tk=_
    simp only [N9,j,ho,f,Bool.and_self,cond_true]) (J _ _ _ (.inl rfl) ⟨by simp,by simp⟩ (o.new ok rfl _) (h (d,tk))))
def co0 (v:V):V:=co (λ_=>none) v
theorem co_0 {S:Store} {v:V} (h:frz v=[]):co S v=co0 v :=
  (Ko (S:=S) (S':=λ_=>none) (v:=v) (λn f=>by rw [h]at f;cases f)).symm
theorem vO {α β:Type} {f:α->List β}:∀{l:List α},l.flatMap f=[]->∀x∈l,f x=[]
  | a::l,h,x,j=>by
    simp only [List.flatMap_cons,List.append_eq_nil_iff]at h
    rcases List.mem_cons.1 j with rfl|j
    · exact h.1
    · exact vO h.2 x j
def SK (sl:Nat->V) (parts:List (Nat×Operand)):List (Nat×V):=parts.map λp=>(p.1,co0 (ev sl p.2))
theorem SB {S:Store} {tk len size:Nat} {parts:List (Nat×Operand)} {xs:List (List D)} (j:(bG C.P t).bind (szT C.P)=some size) (F:((bG C.P t).bind (zeroCells C.P)).isSome=true)
    (h:(parts.flatMap λp=>frz (ev sl p.2))=[]) (o:xh size 0 (SK sl parts)=some xs) (hl:Nat.beq parts.length len=true) (f:Nat.ble (len*size) 16777216=true) :
    KX C t len (parts.map λp=>(p.1,ev sl p.2)) S d tk=some (bif C.vm.contains d then⟨[],[((d,tk),some (.vec size xs))],.vs (d,tk) size 0 len⟩else⟨[],[],bif Nat.beq len 0 then .nil else .d (.sl xs)⟩):=by
  have h1:((parts.map λp=>(p.1,ev sl p.2)).flatMap λp=>frz p.2)=[]:=by
    rw [List.flatMap_map];exact h
  have h2:((parts.map λp=>(p.1,ev sl p.2)).map λp=>(p.1,co S p.2))=SK sl parts:=by
    rw [List.map_map]
    exact List.map_congr_left (λp B=>by simp only [Function.comp];rw [co_0 (vO h p B)])
  have A:Nat.beq ((SK sl parts).length) len=true:=by simp only [SK,List.length_map];exact hl
  simp only [KX,h1,List.all_nil,cond_true,freezeAll,ig,fu,h2,uA,j,o,A,f,F,Bool.and_self]
  cases C.vm.contains d <;> cases Nat.beq len 0 <;> simp [gJ,ic]
theorem eu {len size:Nat} {parts:List (Nat×Operand)} (xs:List (List D)) (I:(bG C.P t).bind (szT C.P)=some size) (F:((bG C.P t).bind (zeroCells C.P)).isSome=true)
    (L:(parts.flatMap λp=>frz (ev sl p.2))=[]) (o:xh size 0 (SK sl parts)=some xs) (hl:Nat.beq parts.length len=true) (f:Nat.ble (len*size) 16777216=true) (j:(C.vm.contains d||Nat.beq len 0)=false)
    (B:aQ all sl ⟨some d,.buildSlice t len parts.toArray,ty,pos,after,g⟩=some true) (h:aZ q C all K rest (upd sl d (.d (.sl xs))) H):aZ q C all K (⟨some d,.buildSlice t len parts.toArray,ty,pos,after,g⟩::rest) sl H :=
  om B (λS tk M _ J=>jb (A:=⟨[],[],.d (.sl xs)⟩) (λc e=>by cases e) (by
    show KX C t len (parts.toArray.toList.map λp=>(p.1,ev sl p.2)) S d tk=_
    rw [List.toList_toArray,SB I F L o hl f]
    simp only [Bool.or_eq_false_iff]at j
    rw [j.1,j.2];rfl) (J _ rfl rfl rfl)) h
theorem h_lit0 {size:Nat} (f:(bG C.P t).bind (szT C.P)=some size) (F:((bG C.P t).bind (zeroCells C.P)).isSome=true) (o:C.vm.contains d=false)
    (j:aQ all sl ⟨some d,.buildSlice t 0 #[],ty,pos,after,g⟩=some true) (h:aZ q C all K rest (upd sl d .nil) H):aZ q C all K (⟨some d,.buildSlice t 0 #[],ty,pos,after,g⟩::rest) sl H :=
  om j (λS tk I _ B=>jb (A:=⟨[],[],.nil⟩) (λc e=>by cases e) (by
    show KX C t 0 (([]:List (Nat×Operand)).map λp=>(p.1,ev sl p.2)) S d tk=_
    rw [SB (parts:=[]) f F rfl rfl rfl (by rw [Nat.zero_mul];rfl),o];rfl) (B _ rfl rfl rfl)) h
end
end Go.Eng

/-
  THE ENGINE: append, calls, a function's end.
-/
namespace Go.Eng
set_option linter.unusedSectionVars false
variable [DM]
set_option linter.unusedVariables false
set_option linter.unusedSimpArgs false
section
variable {C:Cfg} {sl:Nat->V} {H:Hp} {q:Qm} {all rest:List Oper} {K:(Nat->V)->Hp->Prop}
variable {dst:Option Tmp} {d:Nat} {t ty:TypeId} {pos:String} {after:Array Edge} {g:Option (Nat×Bool)}
theorem KT {S:Store} {tk:Nat} {l:List Oper} (f:AgR H S tk l) {i:Nat} {n:Nm} {b b':Option Box} (h:H[i]? = some (n,b)) (hb:∀x,b'=some x->S n=some x):AgR (H.set i (n,b')) S tk l:=by
 have hi:i<H.length:=(List.getElem?_eq_some_iff.1 h).1
 have he:H[i]=(n,b):=(List.getElem?_eq_some_iff.1 h).2
 have o:(H.set i (n,b')).map (·.1)=H.map (·.1):=by
  apply List.ext_getElem
  ·simp
  ·intro j h1 h2
   simp only [List.getElem_map,List.getElem_set]
   split
   ·rename_i e;subst e;rw [he]
   ·rfl
 refine⟨f.pos,by rw [o];exact f.nd,λp A => ?_⟩
 obtain ⟨j,hj,rfl⟩:=List.getElem_of_mem A
 simp only [List.length_set]at hj
 simp only [List.getElem_set]
 split
 ·rename_i e;subst e
  have:=f.at_ (n,b) (by rw [<- he];exact List.getElem_mem hi)
  exact⟨this.1,hb⟩
 ·exact f.at_ H[j] (List.getElem_mem hj)
theorem AgR.swap {S:Store} {tk:Nat} {o:Oper} (ok:uN C (o::rest)) (B:AgR H S tk (o::rest)) (N:o.dst=some d) {i:Nat} {n:Nm} {O:Option Box} (h:H[i]? = some (n,O)) (b:Option Box) (S':Store)
  (Y:∀m,m≠n->m≠(d,tk)->S' m=S m) (hb:∀x,b=some x->S' (d,tk)=some x):AgR (H.set i ((d,tk),b)) S' tk rest:=by
 have f:=new_ne ok B N 0
 simp only [Nat.mul_zero,Nat.add_zero]at f
 have M:=(qj (ok.2 o (by simp)) N).2
 have hi:i<H.length:=(List.getElem?_eq_some_iff.1 h).1
 have he:H[i]=(n,O):=(List.getElem?_eq_some_iff.1 h).2
 have A:∀j (hj:j<H.length),j≠i->H[j].1≠n:=λj hj hji e=>hji (nT B.nd j i (by simpa using hj) (by simpa using hi) (by simp [he,e]))
 have R:(H.set i ((d,tk),b)).map (·.1)=(H.map (·.1)).set i (d,tk):=by rw [List.map_set]
 refine⟨B.pos,?_,λp W => ?_⟩
 ·rw [R]
  refine List.pairwise_iff_getElem.2 (λa c I hc J => ?_)
  simp only [List.length_set,List.length_map]at I hc
  have h1:=(List.pairwise_iff_getElem.1 B.nd) a c (by simpa using I) (by simpa using hc) J
  simp only [List.getElem_map]at h1
  simp only [List.getElem_set,List.getElem_map]
  split
  ·rw [if_neg (by omega)]
   exact (f _ (List.getElem_mem hc)).symm
  ·split
   ·exact f _ (List.getElem_mem I)
   ·exact h1
 ·obtain ⟨j,hj,rfl⟩:=List.getElem_of_mem W
  simp only [List.length_set]at hj
  simp only [List.getElem_set]
  split
  ·refine⟨.inr ⟨rfl,λZ L F => ?_⟩,hb⟩
   simp only [Nat.mod_eq_of_lt M]at F
   have h1:=ok.1
   simp only [mq,N,Bool.and_eq_true]at h1
   have h2:=List.all_eq_true.1 h1.1 Z L
   simp only [F,Nat.beq_refl]at h2
   cases h2
  ·rename_i e
   have h1:=B.tail.at_ H[j] (List.getElem_mem hj)
   exact⟨h1.1,λx T=>by rw [Y _ (A j hj (Ne.symm e)) (f _ (List.getElem_mem hj))];exact h1.2 x T⟩
def kr {α:Type} (xs ys:List α):Option (List α):=if xs.length+ys.length<=1000000000 then some (xs++ys)else none
def sW (x y:ByteArray):Option ByteArray:=if ((x.size+y.size:Nat):Int)>IntKind.i64.max then none else some (x++y)
theorem Aa {P:Program} {t e:TypeId} (h:bG P t=some e):p8 P t=false:=by
 have:=lY h
 unfold p8;rw [this]
theorem DF {α:Type} {enc:α->List D} {sz:Nat} (h:∀y,(enc y).length=sz) (ys:List α):(ys.map enc).all (λx=>Nat.beq x.length sz)=true:=by
 rw [List.all_eq_true]
 intro x f
 obtain ⟨y,_,rfl⟩:=List.mem_map.1 f
 rw [h y];exact Nat.beq_refl sz
section app
variable {α:Type} {enc:α->List D} {xs ys zs:List α} {x y:Operand} {t' e e':TypeId} {sz bytes i:Nat} {n:Nm} {z:List V}
theorem h_appgX (p:Nat) (hpp:q=none\/Nat.beq all.length (p+(rest.length+1))=true) (hf:∀S tk,AgR H S tk (⟨some d,.call ⟨.builtin .append,#[x,y],#[t,t']⟩,ty,pos,after,g⟩::rest)->okQ q all p [n] true) (he:bG C.P t=some e) (B:OJ C.P t'=some ()) (hni:p8 C.P t'=false) (hs:szT C.P e=some sz) (W:zeroCells C.P e=some z) (Z:z.length=sz) (hp:0<sz) (hby:fI C.P e=bytes) (hbb:bytes<=100000)
  (R:∀y,(enc y).length=sz) (f:ev sl x=gV n sz xs) (O:H[i]? = some (n,gB sz enc xs)) (Y:∀S,nC S sz (ev sl y)=some (ys.map enc,[])) (L:kr xs ys=some zs)
  (hw:aQ all sl ⟨some d,.call ⟨.builtin .append,#[x,y],#[t,t']⟩,ty,pos,after,g⟩=some true)
  (h:∀n':Nm,aZ (pK q p [n,n'] true) C all K rest (upd sl d (gV n' sz zs)) (H.set i (n',gB sz enc zs))):aZ q C all K (⟨some d,.call ⟨.builtin .append,#[x,y],#[t,t']⟩,ty,pos,after,g⟩::rest) sl H:=by
 unfold kr at L
 split at L
 case isFalse=>cases L
 rename_i J
 simp only [so_]at L
 subst L
 refine vo rfl p [n] hpp hf (wL O) hw (λS tk K' ok T N => ?_)
 have hall:=DF (sz:=sz) R ys
 have I:z.length=sz/\0<sz:=⟨Z,hp⟩
 have F:∀m,m<=1000000000->(2*m+192)*fI C.P e<=2 ^ 48/\m<=2 ^ 48:=λm hm=>by
  rw [hby]
  have:=Nat.mul_le_mul (show 2*m+192<=2000000192 by omega) hbb
  exact⟨by omega,by omega⟩
 have run:∀{A:Eff},mf C.P t t' S (ev sl x) (ev sl y) d tk=some A->K' A->opD C ⟨some d,.call ⟨.builtin .append,#[x,y],#[t,t']⟩,ty,pos,after,g⟩ sl S tk K':=λL N=>zk (by show (bif p8 C.P t' then _ else _)=_;rw [hni,cond_false];exact L) N
 cases xs with
 | nil =>
  have j:ev sl x = .nil:=f
  cases ys with
  | nil =>
   refine run (A:=⟨[],[],.nil⟩) ?_ (N _ (H.set i (n,gB sz enc ([]:List α))) n (.inr (by simp)) ⟨by simp,by simp⟩ (by
    have:=KT T O (b':=gB sz enc ([]:List α)) (λx f=>by cases f)
    exact this.tail) (h n))
   rw [j]
   simp only [mf,he,B,hs,W,if_pos I,Y,List.map_nil,List.map_cons,if_true]
   rw [if_pos (F _ (by simp))]
   try rfl
  | cons M ys =>
   refine run (A:=⟨[],[((d,tk),some (.vec sz ((M::ys).map enc)))],.vs (d,tk) sz 0 (M::ys).length⟩) ?_ (N _ (H.set i ((d,tk),gB sz enc (M::ys))) (d,tk) (.inl rfl) ⟨by simp,by simp⟩ ?_ (h (d,tk)))
   ·rw [j]
    simp only [mf,he,B,hs,W,if_pos I,Y,List.map_nil,List.map_cons,if_true]
    rw [if_pos (F _ (by simpa using J))]
    simp
   ·exact T.swap ok rfl O _ _ (λm h1 h2=>by simp [fu,supd,h2]) (λx f=>by simp only [fu,supd,if_true];exact f)
 | cons o xs =>
  have j:ev sl x = .vs n sz 0 (o::xs).length:=f
  have hS:S n=some (.vec sz ((o::xs).map enc)):=T.get O
  cases ys with
  | nil =>
   refine run (A:=⟨[(n,.vec sz ((o::xs).map enc))],[],.vs n sz 0 (o::xs).length⟩) ?_ (N _ (H.set i (n,gB sz enc ((o::xs)++[]))) n (.inr (by simp)) ⟨by simp,by simp⟩ (by
    have:=KT T O (b':=gB sz enc ((o::xs)++[])) (λx f=>by simp only [List.append_nil]at f;rw [hS];exact f)
    exact this.tail) (by have:=h n;rw [List.append_nil]at this;rw [List.append_nil];exact this))
   rw [j]
   simp only [mf,he,B,hs,W,if_pos I,Y,List.map_nil,List.map_cons,if_true,hS]
   rw [if_pos ⟨trivial,by simp,F _ (by simpa using J)⟩]
   try rfl
  | cons M ys =>
   refine run (A:=⟨[(n,.vec sz ((o::xs).map enc))],[(n,none),((d,tk),some (.vec sz ((o::xs++(M::ys)).map enc)))],.vs (d,tk) sz 0 (o::xs++(M::ys)).length⟩) ?_ (N _ (H.set i ((d,tk),gB sz enc (o::xs++(M::ys)))) (d,tk) (.inl rfl) ⟨by simp,by simp⟩ ?_ (h (d,tk)))
   ·rw [j]
    simp only [mf,he,B,hs,W,if_pos I,Y,List.map_nil,List.map_cons,if_true,hS]
    rw [if_pos ⟨trivial,by simp,F _ (by simpa using J)⟩]
    simp
    try omega
   ·exact T.swap ok rfl O _ _ (λm h1 h2=>by simp [fu,supd,h2,h1]) (λx f=>by simp only [fu,supd,if_true];exact f)
theorem jJ (p:Nat) (F:q=none\/Nat.beq all.length (p+(rest.length+1))=true) (O:∀S tk,AgR H S tk (⟨some d,.call ⟨.builtin .append,#[x,y],#[t,t']⟩,ty,pos,after,g⟩::rest)->okQ q all p [n] true) (he:bG C.P t=some e) (j:bG C.P t'=some e') (hs:szT C.P e=some sz) (N:zeroCells C.P e=some z) (A:z.length=sz) (T:0<sz) (I:fI C.P e=bytes) (B:bytes<=100000)
  (f:∀y,(enc y).length=sz) (J:ev sl x=gV n sz xs) (R:H[i]? = some (n,gB sz enc xs)) (W:ev sl y=vL enc ys) (M:kr xs ys=some zs)
  (L:aQ all sl ⟨some d,.call ⟨.builtin .append,#[x,y],#[t,t']⟩,ty,pos,after,g⟩=some true)
  (h:∀o:Nm,aZ (pK q p [n,o] true) C all K rest (upd sl d (gV o sz zs)) (H.set i (o,gB sz enc zs))):aZ q C all K (⟨some d,.call ⟨.builtin .append,#[x,y],#[t,t']⟩,ty,pos,after,g⟩::rest) sl H :=
 h_appgX p F O he (yn j) (Aa j) hs N A T I B f J R (λS=>by rw [W];simp only [nC,si,DF (sz:=sz) f ys,if_true]) M L h
theorem h_appv (p:Nat) (Y:q=none\/Nat.beq all.length (p+(rest.length+1))=true) (hf:∀S tk,AgR H S tk (⟨some d,.call ⟨.builtin .append,#[x,y],#[t,t']⟩,ty,pos,after,g⟩::rest)->okQ q all p [n] true) (he:bG C.P t=some e) (o:bG C.P t'=some e') (hs:szT C.P e=some sz) (hz:zeroCells C.P e=some z) (R:z.length=sz) (hp:0<sz) (Z:fI C.P e=bytes) (T:bytes<=100000)
  (I:∀y,(enc y).length=sz) (B:ev sl x=vV n sz xs) (N:H[i]? = some (n,some (bV sz enc xs))) (hy:ev sl y=vL enc ys) (j:kr xs ys=some zs)
  (hw:aQ all sl ⟨some d,.call ⟨.builtin .append,#[x,y],#[t,t']⟩,ty,pos,after,g⟩=some true)
  (h:∀n':Nm,aZ (pK q p [n,n'] true) C all K rest (upd sl d (vV n' sz zs)) (H.set i (n',some (bV sz enc zs)))):aZ q C all K (⟨some d,.call ⟨.builtin .append,#[x,y],#[t,t']⟩,ty,pos,after,g⟩::rest) sl H:=by
 unfold kr at j
 split at j
 case isFalse=>cases j
 rename_i F
 simp only [so_]at j
 subst j
 refine vo rfl p [n] Y hf (wL N) hw (λS tk K' ok W M => ?_)
 have f:=DF (sz:=sz) I ys
 have L:z.length=sz/\0<sz:=⟨R,hp⟩
 have J:∀m,m<=1000000000->(2*m+192)*fI C.P e<=2 ^ 48/\m<=2 ^ 48:=λm hm=>by
  rw [Z]
  have:=Nat.mul_le_mul (show 2*m+192<=2000000192 by omega) T
  exact⟨by omega,by omega⟩
 have run:∀{A:Eff},mf C.P t t' S (ev sl x) (ev sl y) d tk=some A->K' A->opD C ⟨some d,.call ⟨.builtin .append,#[x,y],#[t,t']⟩,ty,pos,after,g⟩ sl S tk K':=λj M=>zk (by show (bif p8 C.P t' then _ else _)=_;rw [Aa o,cond_false];exact j) M
 have hS:S n=some (.vec sz (xs.map enc)):=W.get N
 cases ys with
 | nil =>
  refine run (A:=⟨[(n,.vec sz (xs.map enc))],[],.vs n sz 0 xs.length⟩) ?_ (M _ (H.set i (n,some (bV sz enc (xs++[])))) n (.inr (by simp)) ⟨by simp,by simp⟩ (by
   have:=KT W N (b':=some (bV sz enc (xs++[]))) (λx B=>by simp only [List.append_nil]at B;rw [hS];exact B)
   exact this.tail) (by have:=h n;rw [List.append_nil]at this;rw [List.append_nil];exact this))
  rw [B,hy]
  simp only [vV,mf,he,yn o,hs,hz,if_pos L,nC,si,f,if_true,hS]
  rw [if_pos ⟨trivial,by simp,J _ (by simpa using F)⟩]
  rfl
 | cons O ys =>
  refine run (A:=⟨[(n,.vec sz (xs.map enc))],[(n,none),((d,tk),some (.vec sz ((xs++(O::ys)).map enc)))],.vs (d,tk) sz 0 (xs++(O::ys)).length⟩) ?_ (M _ (H.set i ((d,tk),some (bV sz enc (xs++(O::ys))))) (d,tk) (.inl rfl) ⟨by simp,by simp⟩ ?_ (h (d,tk)))
  ·rw [B,hy]
   simp only [vV,mf,he,yn o,hs,hz,if_pos L,nC,si,f,if_true,hS]
   rw [if_pos ⟨trivial,by simp,J _ (by simpa using F)⟩]
   simp
  ·exact W.swap ok rfl N _ _ (λm h1 h2=>by simp [fu,supd,h2,h1]) (λx B=>by simp only [fu,supd,if_true];exact B)
end app
end
end Go.Eng

/-
  THE ENGINE: calls, a function's end, and what may be done between operations.
-/
namespace Go.Eng
set_option linter.unusedSectionVars false
variable [DM]
set_option linter.unusedVariables false
set_option linter.unusedSimpArgs false
section
variable {C:Cfg} {sl:Nat->V} {H:Hp} {q:Qm} {all rest:List Oper} {K:(Nat->V)->Hp->Prop}
variable {dst:Option Tmp} {d:Nat} {t ty:TypeId} {pos:String} {after:Array Edge} {g:Option (Nat×Bool)}
theorem Cu {S:Store}:∀{vs:List V},vs.flatMap frz=[]->vs.map (co S)=vs.map co0
  | vs,h=>List.map_congr_left (λv f=>co_0 (vO h v f))
theorem wX {f:Operand} {args:List Operand} {j:Array TypeId} {fn:FuncId} {caps:List V} {S:Store} {tk:Nat} {o:Eff->Prop} (A:ev sl f = .fn fn caps) (h:JL C (.fn fn caps) (args.map (ev sl)) dst S tk o) :
    opD C ⟨dst,.call ⟨.value f,args.toArray,j⟩,ty,pos,after,g⟩ sl S tk o:=by
  show JL C (ev sl f) (args.toArray.toList.map (ev sl)) dst S tk o
  rw [A,List.toList_toArray];exact h
theorem aB {f:Operand} {args:List Operand} {B:Array TypeId} {fn:FuncId} {caps j:List V} {r:V} (hc:FnM C.P fn j [] r []) (M:ev sl f = .fn fn caps) (hb:aJ C.P fn=true)
    (o:(args.map (ev sl)++caps).flatMap frz=[]) (L:(args.map (ev sl)++caps).map co0=j) (A:okL 0 j=true) (F:okV 0 r=true)
    (J:aQ all sl ⟨dst,.call ⟨.value f,args.toArray,B⟩,ty,pos,after,g⟩=some true) (h:aZ q C all K rest (dI sl dst r) H):aZ q C all K (⟨dst,.call ⟨.value f,args.toArray,B⟩,ty,pos,after,g⟩::rest) sl H :=
  om J (λS tk O _ N=>wX M (by
    refine .inl ⟨hb,⟨[],[],j,[],r,[],false⟩,?_,λ_=>rfl,?_⟩
    · exact { does := hc
              args:=ArgsOK.of_map <| by
                show (args.map (ev sl)++caps).map (co S)=renL [] j
                rw [Cu o,L,KM A]
              okA:=A,nodup:=List.nodup_nil,ins:=trivial,len:=Nat.le_refl _,okR:=F,okO:=rfl,mutN:=rfl
              roOK:=(λe=>by cases e),have_:=(λn o=>nomatch o),cov:=(λn I=>by rw [o]at I;cases I),dis:=(λn o=>nomatch o) }
    · have:ren [] r=r:=wC F
      show O ⟨_,_,ren [] r⟩
      rw [this]
      exact N _ rfl rfl rfl)) h
theorem h_ext {f:Operand} {args:List Operand} {o:Array TypeId} {fn:FuncId} {j:List V} {r:D} (hc:ExtM C.P fn j r) (A:ev sl f = .fn fn []) (hb:aJ C.P fn=false)
    (I:args.map (ev sl)=j)
    (B:aQ all sl ⟨dst,.call ⟨.value f,args.toArray,o⟩,ty,pos,after,g⟩=some true) (h:aZ q C all K rest (dI sl dst (.d r)) H):aZ q C all K (⟨dst,.call ⟨.value f,args.toArray,o⟩,ty,pos,after,g⟩::rest) sl H :=
  om B (λS tk J _ F=>wX A (by
    refine .inr ⟨hb,r,?_,F _ rfl rfl rfl⟩
    rw [I,List.append_nil];exact hc)) h
def oP (H:Hp):List Nat->Option (List (Nm×Box))
  | []=>some []
  | i::f=>match H[i]?,oP H f with
    | some (n,some b),some l=>some ((n,b)::l)
    | _,_=>none
def setH (H:Hp):List (Nat×Nm×Option Box)->Hp
  | []=>H
  | (i,n,b)::l=>setH (H.set i (n,b)) l
theorem mX:∀{f:List Nat} {l:List (Nm×Box)},oP H f=some l->l.length=f.length/\∀j (h1:j<f.length) (h2:j<l.length),H[f[j]]? = some (l[j].1,some l[j].2)
  | [],l,h=>by simp only [oP,so_]at h;subst h;exact⟨rfl,λj h1=>absurd h1 (Nat.not_lt_zero _)⟩
  | i::f,l,h=>by
    simp only [oP]at h
    split at h
    · rename_i n b I h1 h2
      simp only [so_]at h
      subst h
      obtain ⟨F,B⟩:=mX h2
      refine⟨by simp [F],λj A o => ?_⟩
      cases j with
      | zero=>exact h1
      | succ j=>exact B j (by simpa using A) (by simpa using o)
    · cases h
theorem yf {S:Store} {ρ:List Nm}:∀{ns:List Nm} {bs:List Box},ns.length=bs.length->(∀j (h1:j<ns.length) (h2:j<bs.length),bs[j].ok ρ.length=true/\S ns[j]=some (bs[j].ren ρ))->insOK S ρ ns bs
  | [],[],_,_=>trivial
  | n::ns,b::bs,hl,h=>⟨h 0 (by simp) (by simp),yf (by simpa using hl) (λj h1 h2=>h (j+1) (by simpa using h1) (by simpa using h2))⟩
  | [],_::_,hl,_=>by simp at hl
  | _::_,[],hl,_=>by simp at hl
theorem yQ {S:Store} {tk:Nat} {l:List Oper} (I:AgR H S tk l) {f:List Nat} (hi:f.Nodup) {l:List (Nm×Box)} (h:oP H f=some l):(l.map (·.1)).Nodup:=by
  obtain ⟨h1,h2⟩:=mX h
  refine List.pairwise_iff_getElem.2 (λa c A hc J => ?_)
  simp only [List.length_map]at A hc
  simp only [List.getElem_map]
  intro e
  have B:=h2 a (by omega) A
  have F:=h2 c (by omega) hc
  have o:=(List.getElem?_eq_some_iff.1 B).1
  have j:=(List.getElem?_eq_some_iff.1 F).1
  have L:=nT I.nd f[a] f[c] (by simpa using o) (by simpa using j) (by
    simp only [List.getElem_map]
    rw [(List.getElem?_eq_some_iff.1 B).2,(List.getElem?_eq_some_iff.1 F).2];exact e)
  have:=nT hi a c (by omega) (by omega) L
  omega
def outs (ν:List Nm):List Nat->List Nm->List (Option Box)->List (Nat×Nm×Option Box)
  | i::f,n::ns,b::bs=>(i,n,b.map (·.ren ν))::outs ν f ns bs
  | _,_,_=>[]
def news (ν:List Nm):List Nm->List (Option Box)->Hp
  | n::ns,b::bs=>(n,b.map (·.ren ν))::news ν ns bs
  | _,_=>[]
theorem NL (a b:List (Nat×Nm×Option Box)):∀H:Hp,setH H (a++b)=setH (setH H a) b:=by
  induction a with
  | nil=>intro H;rfl
  | cons x a f=>intro H;obtain ⟨i,n,o⟩:=x;exact f _
theorem Qk {l:List (Nat×Nm×Option Box)}:∀{H:Hp},(setH H l).length=H.length:=by
  induction l with
  | nil=>intro H;rfl
  | cons x l f=>intro H;obtain ⟨i,n,b⟩:=x;simp only [setH];rw [f];simp
theorem C8 {tk:Nat} {lo:List Oper} {ν:List Nm}:∀{f:List Nat} {ns:List Nm} {bs:List (Option Box)} {H:Hp} {S:Store} (o:AgR H S tk lo) (hi:f.Nodup) (I:ns.Nodup)
    (h:∀j (h1:j<f.length) (h2:j<ns.length),∃b,H[f[j]]? = some (ns[j],b)),AgR (setH H (outs ν f ns bs)) (fu S (eF ν (ns.take f.length) bs)) tk lo
  | [],ns,bs,H,S,o,_,_,_=>by simp only [outs,setH,List.length_nil,List.take_zero,eF,fu];exact o
  | i::f,[],bs,H,S,o,_,_,_=>by simp only [outs,setH,List.take_nil,eF,fu];exact o
  | i::f,n::ns,[],H,S,o,_,_,_=>by simp only [outs,setH,List.length_cons,List.take_succ_cons,eF,fu];exact o
  | i::f,n::ns,b::bs,H,S,o,hi,I,h=>by
    simp only [outs,setH,List.length_cons,List.take_succ_cons,eF,fu]
    obtain ⟨L,A⟩:=h 0 (by simp) (by simp)
    have A:H[i]? = some (n,L):=A
    refine C8 (o.set A (b:=b.map (Box.ren ν)) (b':=b.map (Box.ren ν)) (λx J=>J)) (List.nodup_cons.1 hi).2 (List.nodup_cons.1 I).2 (λj h1 h2 => ?_)
    obtain ⟨M,F⟩:=h (j+1) (by simpa using h1) (by simpa using h2)
    refine⟨M,?_⟩
    have B:i≠f[j]:=λe=>(List.nodup_cons.1 hi).1 (e ▸ List.getElem_mem _)
    rw [List.getElem?_set_ne B]
    exact F
theorem AgR.news {tk:Nat} {o:Oper} (ok:uN C (o::rest)) (J:o.dst=some d) {ν:List Nm}:∀(m:Nat) {bs:List (Option Box)} {H:Hp} {S:Store} (k:Nat),
    ((H.map (·.1)).Nodup/\0<tk)->(∀p∈H,((p.1.2<tk\/p.1.2=tk/\(∀N∈o::rest,N.dst≠some (p.1.1 % 100000)))\/∃j,j<k/\p.1=(d+100000*j,tk))/\∀b,p.2=some b->S p.1=some b) ->
    AgR (H++Eng.news ν ((List.range' k m).map λj=>(d+100000*j,tk)) bs) (fu S (eF ν ((List.range' k m).map λj=>(d+100000*j,tk)) bs)) tk rest
  | 0,bs,H,S,k,f,B=>by
    simp only [List.range'_zero,List.map_nil,Eng.news,List.append_nil,eF,fu]
    have F:=(qj (ok.2 o (by simp)) J).2
    refine⟨f.2,f.1,λp A=>⟨?_,(B p A).2⟩⟩
    rcases (B p A).1 with (h|⟨h1,h2⟩) | ⟨j,_,h⟩
    · exact .inl h
    · exact .inr ⟨h1,λN I=>h2 N (by simp [I])⟩
    · refine .inr ⟨by rw [h],λN I L => ?_⟩
      have R:(d+100000*j) % 100000=d:=(Nat.add_mul_mod_self_left d 100000 j).trans (Nat.mod_eq_of_lt F)
      rw [h,R]at L
      have h1:=ok.1
      simp only [mq,J,Bool.and_eq_true]at h1
      have h2:=List.all_eq_true.1 h1.1 N I
      simp only [L,Nat.beq_refl]at h2
      cases h2
  | m+1,[],H,S,k,f,B=>by
    have:=AgR.news (tk:=tk) ok J (S:=S) (ν:=ν) 0 (bs:=[]) k f B
    simpa [List.range'_succ,Eng.news,eF,fu]using this
  | m+1,b::bs,H,S,k,f,B=>by
    have F:=(qj (ok.2 o (by simp)) J).2
    simp only [List.range'_succ,List.map_cons,Eng.news,eF,fu]
    have M:∀p∈H,p.1≠(d+100000*k,tk):=λp A e=>by
      rcases (B p A).1 with (h1|⟨_,h1⟩) | ⟨j,hj,h1⟩
      · rw [e]at h1;exact Nat.lt_irrefl _ h1
      · have:=h1 o (by simp)
        have R:(d+100000*k) % 100000=d:=(Nat.add_mul_mod_self_left d 100000 k).trans (Nat.mod_eq_of_lt F)
        rw [e,J,R]at this
        exact this rfl
      · rw [e]at h1
        simp only [Prod.mk.injEq,and_true]at h1
        omega
    have:=AgR.news (tk:=tk) ok J (ν:=ν) m (bs:=bs) (H:=H++[((d+100000*k,tk),b.map (·.ren ν))]) (S:=supd S (d+100000*k,tk) (b.map (·.ren ν))) (k+1) ?_ ?_
    · simpa only [List.append_assoc,List.cons_append,List.nil_append]using this
    · refine⟨?_,f.2⟩
      rw [List.map_append,List.nodup_append]
      refine⟨f.1,by simp,λa T c hc => ?_⟩
      simp only [List.map_cons,List.map_nil,List.mem_singleton]at hc
      obtain ⟨p,A,rfl⟩:=List.mem_map.1 T
      rw [hc];exact M p A
    · intro p A
      rcases List.mem_append.1 A with A|A
      · refine⟨?_,λx O=>by simp only [supd,if_neg (M p A)];exact (B p A).2 x O⟩
        rcases (B p A).1 with h|⟨j,hj,h⟩
        · exact .inl h
        · exact .inr ⟨j,by omega,h⟩
      · simp only [List.mem_singleton]at A
        subst A
        exact⟨.inr ⟨k,by omega,rfl⟩,λx O=>by simp only [supd,if_true];exact O⟩
theorem Ju {β:Type} (f:Nat->β) (m:Nat):(List.range m).map f=(List.range' 0 m).map f:=by rw [List.range_eq_range']
theorem Cs (ν:List Nm):∀(a b:List Nm) (bs:List (Option Box)),eF ν (a++b) bs=eF ν a bs++eF ν b (bs.drop a.length)
  | [],b,bs=>by simp [eF]
  | x::a,b,[]=>by cases b <;> simp [eF]
  | x::a,b,y::bs=>by simp only [List.cons_append,eF,List.length_cons,List.drop_succ_cons];rw [Cs ν a b bs]
theorem K5 {f:Operand} {args:List Operand} {R:Array TypeId} {fn:FuncId} {caps o:List V} {r:V} {Sin:List Box} {Sout:List (Option Box)} (F:List Nat) (m:Nat) {l:List (Nm×Box)} (hc:FnM C.P fn o Sin r Sout)
    (hf:ev sl f = .fn fn caps) (hb:aJ C.P fn=true) (hl:oP H F=some l) (hS:Sin.map (λb=>b.ren (l.map (·.1)))=l.map (·.2)) (N:Sin.all (λb=>b.ok F.length)=true)
    (J:((args.map (ev sl)++caps).flatMap frz).all (λn=>false)=true) (ha:(args.map (ev sl)++caps).map co0=renL (l.map (·.1)) o) (hok:okL F.length o=true) (hr:okV Sout.length r=true)
    (L:Sout.length=F.length+m) (hi:F.Nodup) (hO:okOut Sout.length Sout=true) (hmu:mutOut (Sout.drop F.length)=true)
    (hw:aQ all sl ⟨some d,.call ⟨.value f,args.toArray,R⟩,ty,pos,after,g⟩=some true)
    (h:∀ν:Nat->Nm,aZ none C all K rest (upd sl d (ren (l.map (·.1)++(List.range m).map ν) r))
      (setH H (outs (l.map (·.1)++(List.range m).map ν) F (l.map (·.1)) Sout)++news (l.map (·.1)++(List.range m).map ν) ((List.range m).map ν) (Sout.drop F.length))) :
    aZ none C all K (⟨some d,.call ⟨.value f,args.toArray,R⟩,ty,pos,after,g⟩::rest) sl H:=by
  have O:(args.map (ev sl)++caps).flatMap frz=[]:=by
    cases hx:(args.map (ev sl)++caps).flatMap frz with
    | nil=>rfl
    | cons a b=>rw [hx]at J;simp at J
  obtain ⟨B,T⟩:=mX hl
  have I:Sin.length=l.length:=by have:=congrArg List.length hS;simpa using this
  refine Oj hw (λS tk K' ok Y hk=>wX hf ?_)
  have h:=h (λj=>(d+100000*j,tk))
  have M:=yQ Y hi hl
  refine .inl ⟨hb,⟨[],l.map (·.1),o,Sin,r,Sout,false⟩,?_,(λe=>by cases e),?_⟩
  · exact { does := hc
            args:=ArgsOK.of_map <| by
              show (args.map (ev sl)++caps).map (co S)=_
              rw [Cu O,ha]
            okA:=by simp only [List.length_map,B];exact hok
            nodup:=M
            ins:=by
              refine yf (by simp [I]) (λj h1 h2=>⟨?_,?_⟩)
              · simp only [List.length_map,B]
                exact List.all_eq_true.1 N _ (List.getElem_mem h2)
              · simp only [List.length_map]at h1
                have e:=T j (by omega) h1
                have W:l[j].2=Sin[j].ren (l.map (·.1)):=by
                  have:=congrArg (λx=>x[j]?) hS
                  simp only [List.getElem?_map,List.getElem?_eq_getElem h2,List.getElem?_eq_getElem h1,Option.map_some,so_]at this
                  exact this.symm
                simp only [List.getElem_map]
                show S l[j].1=_
                rw [Y.get e,W]
            len:=by rw [I,L,B];omega
            okR:=hr,okO:=hO,mutN:=by rw [I,B];exact hmu
            roOK:=(λe=>by cases e),have_:=(λn J=>nomatch J),cov:=(λn h'=>by rw [O]at h';cases h'),dis:=(λn _ J=>nomatch J) }
  · have Z:Sout.length-Sin.length=m:=by omega
    have e1:CallData.eff ⟨[],l.map (·.1),o,Sin,r,Sout,false⟩ S d tk=⟨((l.map (·.1)).zip Sin).map (λp=>(p.1,p.2.ren (l.map (·.1)))),eF (l.map (·.1)++ou d tk m) (l.map (·.1)++ou d tk m) Sout,ren (l.map (·.1)++ou d tk m) r⟩:=by
      simp only [CallData.eff,cond_false,CallData.names,Z,ic,ig,List.nil_append]
    show K' (CallData.eff _ S d tk)
    rw [e1]
    refine hk _ _ ?_ h
    have W:(List.range m).map (λj=>(d+100000*j,tk))=ou d tk m:=rfl
    rw [W]
    show AgR _ (fu S (eF _ (l.map (·.1)++ou d tk m) Sout)) tk rest
    rw [Cs,AJ]
    have e3:(l.map (·.1)).length=F.length:=by simp [B]
    rw [e3]
    have A:=C8 (ν:=l.map (·.1)++ou d tk m) Y hi M (bs:=Sout) (λj h1 h2=>by
      simp only [List.length_map]at h2
      exact⟨_,by simp only [List.getElem_map];exact T j h1 h2⟩)
    rw [List.take_of_length_le (by omega)]at A
    have e4:ou d tk m=(List.range' 0 m).map λj=>(d+100000*j,tk):=by rw [<- W,Ju]
    rw [e4]at A ⊢
    exact AgR.news ok rfl m 0 ⟨A.nd,A.pos⟩ (λp hp=>⟨.inl (A.at_ p hp).1,(A.at_ p hp).2⟩)
theorem zg {ν:List Nm}:∀{ns:List Nm} {bs:List (Option Box)} {p:Nm×Option Box},p∈eF ν ns bs->p.1∈ns
  | n::ns,b::bs,p,h=>by
    rcases List.mem_cons.1 h with rfl|h
    · simp
    · exact List.mem_cons_of_mem _ (zg h)
  | [],_,_,h=>by simp [eF]at h
  | _::_,[],_,h=>by simp [eF]at h
theorem Es:∀{j:List Nat} {l:List (Nm×Box)},oP H j=some l->∀m∈l.map (·.1),m∈H.map (·.1)
  | [],l,h,m,f=>by simp only [oP,so_]at h;subst h;cases f
  | i::j,l,h,m,f=>by
    simp only [oP]at h
    split at h
    · rename_i n b o h1 h2
      simp only [so_]at h;subst h
      simp only [List.map_cons,List.mem_cons]at f
      rcases f with rfl|f
      · exact wL h1 _ (by simp)
      · exact Es h2 m f
    · cases h
theorem gG {f:Operand} {args:List Operand} {B:Array TypeId} {fn:FuncId} {caps o:List V} {r:V} {Sin:List Box} {Sout:List (Option Box)} (p:Nat) (A:List Nat) {l:List (Nm×Box)} (hp:q=none\/Nat.beq all.length (p+(rest.length+1))=true)
    (hfp:∀S tk,AgR H S tk (⟨some d,.call ⟨.value f,args.toArray,B⟩,ty,pos,after,g⟩::rest)->okQ q all p (l.map (·.1)) true) (hc:FnM C.P fn o Sin r Sout)
    (hf:ev sl f = .fn fn caps) (hb:aJ C.P fn=true) (hl:oP H A=some l) (hS:Sin.map (λb=>b.ren (l.map (·.1)))=l.map (·.2)) (M:Sin.all (λb=>b.ok A.length)=true)
    (I:((args.map (ev sl)++caps).flatMap frz).all (λn=>false)=true) (ha:(args.map (ev sl)++caps).map co0=renL (l.map (·.1)) o) (Z:okL A.length o=true) (hr:okV Sout.length r=true)
    (hlen:Sout.length=A.length) (hi:A.Nodup) (hO:okOut Sout.length Sout=true)
    (hw:aQ all sl ⟨some d,.call ⟨.value f,args.toArray,B⟩,ty,pos,after,g⟩=some true)
    (v:V) (hv:ren (l.map (·.1)) r=v) (H':Hp) (hH:setH H (outs (l.map (·.1)) A (l.map (·.1)) Sout)=H')
    (h:aZ (pK q p (l.map (·.1)) true) C all K rest (upd sl d v) H') :
    aZ q C all K (⟨some d,.call ⟨.value f,args.toArray,B⟩,ty,pos,after,g⟩::rest) sl H:=by
  subst hv hH
  have N:(args.map (ev sl)++caps).flatMap frz=[]:=by
    cases J:(args.map (ev sl)++caps).flatMap frz with
    | nil=>rfl
    | cons a b=>rw [J]at I;simp at I
  obtain ⟨F,O⟩:=mX hl
  have Y:Sin.length=l.length:=by have:=congrArg List.length hS;simpa using this
  refine og p (l.map (·.1)) true hp hfp (Es hl) hw (λS tk K' ok T hk=>wX hf ?_)
  have L:=yQ T hi hl
  refine .inl ⟨hb,⟨[],l.map (·.1),o,Sin,r,Sout,false⟩,?_,(λe=>by cases e),?_⟩
  · exact { does := hc
            args:=ArgsOK.of_map <| by
              show (args.map (ev sl)++caps).map (co S)=_
              rw [Cu N,ha]
            okA:=by simp only [List.length_map,F];exact Z
            nodup:=L
            ins:=by
              refine yf (by simp [Y]) (λj h1 h2=>⟨?_,?_⟩)
              · simp only [List.length_map,F]
                exact List.all_eq_true.1 M _ (List.getElem_mem h2)
              · simp only [List.length_map]at h1
                have e:=O j (by omega) h1
                have e2:l[j].2=Sin[j].ren (l.map (·.1)):=by
                  have:=congrArg (λx=>x[j]?) hS
                  simp only [List.getElem?_map,List.getElem?_eq_getElem h2,List.getElem?_eq_getElem h1,Option.map_some,so_]at this
                  exact this.symm
                simp only [List.getElem_map]
                show S l[j].1=_
                rw [T.get e,e2]
            len:=by show Sin.length<=Sout.length;omega
            okR:=hr,okO:=hO,mutN:=by show mutOut (List.drop Sin.length Sout)=true;rw [List.drop_of_length_le (by omega)];rfl
            roOK:=(λe=>by cases e),have_:=(λn I=>nomatch I),cov:=(λn h'=>by rw [N]at h';cases h'),dis:=(λn _ I=>nomatch I) }
  · have W:Sout.length-Sin.length=0:=by omega
    have e1:CallData.eff ⟨[],l.map (·.1),o,Sin,r,Sout,false⟩ S d tk=⟨((l.map (·.1)).zip Sin).map (λp=>(p.1,p.2.ren (l.map (·.1)))),eF (l.map (·.1)) (l.map (·.1)) Sout,ren (l.map (·.1)) r⟩:=by
      simp only [CallData.eff,cond_false,CallData.names,W,ou,List.range_zero,List.map_nil,List.append_nil,ic,ig,List.nil_append]
    show K' (CallData.eff _ S d tk)
    rw [e1]
    refine hk _ _ ⟨λx J => ?_,λx J=>zg J⟩ (λh=>by cases h) ?_ h
    · obtain ⟨y,hy,rfl⟩:=List.mem_map.1 J
      exact (List.of_mem_zip hy).1
    · have e3:(l.map (·.1)).length=A.length:=by simp [F]
      have R:=C8 (ν:=l.map (·.1)) T hi L (bs:=Sout) (λj h1 h2=>by
        simp only [List.length_map]at h2
        exact⟨_,by simp only [List.getElem_map];exact O j h1 h2⟩)
      rw [List.take_of_length_le (by omega)]at R
      exact R.tail
end
end Go.Eng

/-
  THE ENGINE: what may be known anew between operations; a function's end and its contract; loops over a list.
-/
namespace Go.Eng
set_option linter.unusedSectionVars false
variable [DM]
set_option linter.unusedVariables false
set_option linter.unusedSimpArgs false
section
variable {C:Cfg} {sl:Nat->V} {H:Hp} {Q:QH} {c:Code}
theorem Ag.get {S:Store} {tk:Nat} (f:Ag H S tk) {i:Nat} {n:Nm} {b:Box} (h:H[i]? = some (n,some b)):S n=some b :=
 (f.at_ _ (List.mem_of_getElem? h)).2 b rfl
theorem Ag.set {S:Store} {tk:Nat} (o:Ag H S tk) {i:Nat} {n:Nm} {B b b':Option Box} (h:H[i]? = some (n,B)) (hb:∀x,b=some x->b'=some x):Ag (H.set i (n,b)) (supd S n b') tk:=by
 have hi:i<H.length:=(List.getElem?_eq_some_iff.1 h).1
 have he:H[i]=(n,B):=(List.getElem?_eq_some_iff.1 h).2
 have F:(H.set i (n,b)).map (·.1)=H.map (·.1):=by
  apply List.ext_getElem
  ·simp
  ·intro j h1 h2
   simp only [List.getElem_map,List.getElem_set]
   split
   ·rename_i e;subst e;rw [he]
   ·rfl
 refine⟨o.pos,by rw [F];exact o.nd,λp I => ?_⟩
 obtain ⟨j,hj,rfl⟩:=List.getElem_of_mem I
 simp only [List.length_set]at hj
 simp only [List.getElem_set]
 split
 ·rename_i e;subst e
  have:=o.at_ (n,B) (by rw [<- he];exact List.getElem_mem hi)
  exact⟨this.1,λx A=>by simp only [supd,if_true];exact hb x A⟩
 ·rename_i e
  have h1:=o.at_ H[j] (List.getElem_mem hj)
  refine⟨h1.1,λx A => ?_⟩
  have f:H[j].1≠n:=λf=>e (nT o.nd i j (by simpa using hi) (by simpa using hj) (by simp [he,f]))
  simp only [supd,if_neg f]
  exact h1.2 x A
theorem Ag.drop {S:Store} {tk:Nat} (f:Ag H S tk) {i:Nat} {n:Nm} {o:Option Box} (h:H[i]? = some (n,o)):Ag (H.set i (n,none)) S tk:=by
 have hi:i<H.length:=(List.getElem?_eq_some_iff.1 h).1
 have he:H[i]=(n,o):=(List.getElem?_eq_some_iff.1 h).2
 have B:(H.set i (n,none)).map (·.1)=H.map (·.1):=by
  apply List.ext_getElem
  ·simp
  ·intro j h1 h2
   simp only [List.getElem_map,List.getElem_set]
   split
   ·rename_i e;subst e;rw [he]
   ·rfl
 refine⟨f.pos,by rw [B];exact f.nd,λp F => ?_⟩
 obtain ⟨j,hj,rfl⟩:=List.getElem_of_mem F
 simp only [List.length_set]at hj
 simp only [List.getElem_set]
 split
 ·rename_i e;subst e
  have:=f.at_ (n,o) (by rw [<- he];exact List.getElem_mem hi)
  exact⟨this.1,λx A=>by cases A⟩
 ·exact f.at_ H[j] (List.getElem_mem hj)
theorem Lj {i:Nat} {n:Nm} {j:Option Box} (h:H[i]? = some (n,j)) (o:wH C c Q sl (H.set i (n,none))):wH C c Q sl H :=
 wM o (λS t f=>⟨S,.refl _,f.drop h⟩)
theorem freeze1 {S:Store} {n:Nm} {sz:Nat} {ys:List (List D)} (h:S n=some (.vec sz ys)):freezeAll S [n]=supd S n (some (.froz sz ys)):=by
 simp [freezeAll,ig,h,fu]
theorem iK (h:∀n:Nm,wH C c Q sl (H++[(n,none)])):wH C c Q sl H:=λok S t j=>by
 have o:∃m:Nat,∀p∈H,p.1.1<m:=by
  clear h j
  induction H with
  | nil=>exact⟨0,λp f=>by cases f⟩
  | cons x H I =>
   obtain ⟨m,A⟩:=I
   refine⟨max m (x.1.1+1),λp f => ?_⟩
   rcases List.mem_cons.1 f with rfl|f
   ·omega
   ·have:=A p f;omega
 obtain ⟨m,A⟩:=o
 refine h (m,0) ok S t ⟨j.pos,?_,λp f => ?_⟩
 ·rw [List.map_append,List.nodup_append]
  refine⟨j.nd,by simp,λa F b hb e => ?_⟩
  simp only [List.map_cons,List.map_nil,List.mem_singleton]at hb
  obtain ⟨p,f,rfl⟩:=List.mem_map.1 F
  have:=A p f
  rw [e,hb]at this
  exact Nat.lt_irrefl _ this
 ·rcases List.mem_append.1 f with f|f
  ·exact j.at_ p f
  ·simp only [List.mem_singleton]at f
   subst f
   exact⟨j.pos,λx B=>by cases B⟩
theorem tJ {ν:List Nm} {i:Nat} {n:Nm} (h:ν[i]? = some n):AP ν (aA i)=n:=by
 simp only [AP,vX,List.getD_eq_getElem?_getD,h,Option.getD_some]
theorem Ty {α:Type} {ν:List Nm} {n:Nm} {sz:Nat} (xs:List α):ren ν (gV n sz xs)=gV (AP ν n) sz xs:=by cases xs <;> rfl
theorem Uf {α:Type} {k i sz:Nat} (h:i<k) (xs:List α):okV k (gV (aA i) sz xs)=true:=by
 cases xs with
 | nil=>rfl
 | cons x xs=>exact Ih h
def resC (C:Cfg) (sl:Nat->V) (H:Hp) (a t:Nat) (v:V):Prop:=∃(k:Nat) (n:Nm) (i j sz size:Nat) (cs:List V) (agg:Bool),
 sl a = .ref n i j/\H[k]? = some (n,some (.cells sz cs))/\szT C.P t=some size/\bU C.P t=agg/\rdV agg size (cs.drop (i*sz+j))=some v
def Hr (C:Cfg) (sl:Nat->V) (H:Hp):List ResultVar->List V->Prop
 | [],[]=>True
 | .tmp t::f,v::vs=>sl t=v/\Hr C sl H f vs
 | .cell a t::f,v::vs=>resC C sl H a t v/\Hr C sl H f vs
 | _,_=>False
theorem KL {S:Store} {tk:Nat} (o:Ag H S tk):∀{f:List ResultVar} {vs:List V},Hr C sl H f vs->GU C ⟨sl,S,tk⟩ f=some vs
 | [],[],_=>rfl
 | .tmp t::f,v::vs,h=>by
  obtain ⟨rfl,h⟩:=h
  simp only [GU,KL o h,Option.map_some]
 | .cell a t::f,v::vs,h=>by
  obtain ⟨⟨k,n,i,j,sz,size,cs,agg,h1,h2,A,F,B⟩,h⟩:=h
  have e:vN C.P t S (sl a)=some ⟨[(n,.cells sz cs)],[],v⟩:=by
   rw [h1,EH A F,o.get h2]
   simp only [Np,B,Option.map_some]
  simp only [GU,e,KL o h]
 | [],_::_,h=>h.elim
 | .tmp _::_,[],h=>h.elim
 | .cell _ _::_,[],h=>h.elim
def CoOK (H:Hp) (v v':V):Prop:=v'=v\/∀S t,Ag H S t->v'=co S v
theorem oh {v v':V} (h:frz v=[]) (h2:co0 v=v'):CoOK H v v' := .inr λS t _=>by rw [co_0 h,h2]
inductive CoL (H:Hp):List V->List V->Prop
 | nil:CoL H [] []
 | cons {v v':V} {vs vs':List V} (h:CoOK H v v') (hs:CoL H vs vs'):CoL H (v::vs) (v'::vs')
theorem CoL.get {vs f:List V} (h:CoL H vs f):vs.length=f.length/\∀(i:Nat) (h1:i<vs.length) (h2:i<f.length),CoOK H vs[i] f[i]:=by
 induction h with
 | nil=>exact⟨rfl,λi h1=>absurd h1 (Nat.not_lt_zero i)⟩
 | cons h _ j =>
  refine⟨by simp [j.1],λi h1 h2 => ?_⟩
  cases i with
  | zero=>exact h
  | succ i=>exact j.2 i (by simpa using h1) (by simpa using h2)
def A9 (H:Hp) (ν:List Nm):List Nat->List Nm->List (Option Box)->Prop
 | [],[],[]=>True
 | j::f,n::ns,b::bs=>H[j]? = some (n,b.map (·.ren ν))/\A9 H ν f ns bs
 | _,_,_=>False
theorem GK {ν:List Nm}:∀{f:List Nat} {ns:List Nm} {bs:List (Option Box)},A9 H ν f ns bs->f.length=ns.length/\ns.length=bs.length
 | [],[],[],_=>⟨rfl,rfl⟩
 | _::_,_::_,_::_,h=>⟨by simp [(GK h.2).1],by simp [(GK h.2).2]⟩
 | [],_::_,_,h=>h.elim
 | [],[],_::_,h=>h.elim
 | _::_,[],_,h=>h.elim
 | _::_,_::_,[],h=>h.elim
theorem Dz {ν:List Nm}:∀{f:List Nat} {ns:List Nm} {bs:List (Option Box)} (_:A9 H ν f ns bs) (i:Nat) (h1:i<f.length) (h2:i<ns.length) (j:i<bs.length),H[f[i]]? = some (ns[i],bs[i].map (·.ren ν))
 | _::_,_::_,_::_,h,0,_,_,_=>h.1
 | _::_,_::_,_::_,h,i+1,h1,h2,j=>Dz h.2 i (by simpa using h1) (by simpa using h2) (by simpa using j)
def qL (C:Cfg) (j:List ResultVar) (k:Nat) (r:V) (Sout:List (Option Box)):QH:=λe sl H=>(e = .normal\/e = .ret) /\
 ∃(vs f:List V) (h:List Nat) (ν:List Nm),Hr C sl H j vs/\CoL H vs f/\Jg f=ren ν r/\A9 H ν h ν Sout/\h.Nodup/\(∀i,i<k->ν[i]? = some (aA i))
theorem PW {B:List ResultVar} {k:Nat} {r:V} {Sout:List (Option Box)} {e:Exit} {σ:St} (h:M7 (qL C B k r Sout) e σ):retQ C B (Qo k r Sout) e σ:=by
 obtain ⟨H,o,he,vs,I,L,ν,h1,h2,h3,j,O,h6⟩:=h
 obtain ⟨l1,Y⟩:=GK j
 obtain ⟨Z,c2⟩:=h2.get
 have A:ν.Nodup:=by
  refine List.pairwise_iff_getElem.2 (λa b N hb T e => ?_)
  have J:=List.getElem?_eq_some_iff.1 (Dz j a (by omega) N (by omega))
  have M:=List.getElem?_eq_some_iff.1 (Dz j b (by omega) hb (by omega))
  have:=nT o.nd L[a] L[b] (by simpa using J.1) (by simpa using M.1) (by simp [J.2,M.2,e])
  have:=nT O a b (by omega) (by omega) this
  omega
 have fin:Qo k r Sout vs σ.store:=⟨I,ν,Z,λi R W=>(c2 i R W).imp id (λh=>h _ _ o),h3,Y,A,h6,λi bx hb=>by
  obtain ⟨hi,F⟩:=List.getElem?_eq_some_iff.1 hb
  have:=Dz j i (by omega) (by omega) hi
  rw [F]at this
  exact⟨ν[i],List.getElem?_eq_getElem (by omega),o.get this⟩⟩
 have f:GU C σ B=some vs:=KL o h1
 rcases he with rfl|rfl
 ·exact⟨vs,f,fin⟩
 ·exact⟨vs,f,fin⟩
theorem fin0 {f:List ResultVar} {r:V} {e:Exit} (he:e = .normal\/e = .ret) (vs:List V) (h1:Hr C sl H f vs) (h2:(vs.flatMap frz).all (λ_=>false)=true) (j:Jg (vs.map co0)=r) (A:okV 0 r=true):qL C f 0 r [] e sl H:=by
 have B:vs.flatMap frz=[]:=by
  cases hx:vs.flatMap frz with
  | nil=>rfl
  | cons a b=>rw [hx]at h2;simp at h2
 have hc:∀{vs:List V},vs.flatMap frz=[]->CoL H vs (vs.map co0):=by
  intro vs
  induction vs with
  | nil=>exact λ_ => .nil
  | cons v vs o=>exact λh => .cons (oh (vO h v (by simp)) rfl) (o (by simp only [List.flatMap_cons,List.append_eq_nil_iff]at h;exact h.2))
 exact⟨he,vs,_,[],[],h1,hc B,by rw [j,wC A],trivial,List.nodup_nil,λi hi=>absurd hi (Nat.not_lt_zero i)⟩
theorem HV {j:List ResultVar} {k:Nat} {r:V} {Sout:List (Option Box)} {e:Exit} (he:e = .normal\/e = .ret) (vs f:List V) (h:List Nat) (ν:List Nm) (h1:Hr C sl H j vs) (h2:CoL H vs f) (B:Jg f=ren ν r)
  (A:A9 H ν h ν Sout) (F:h.Nodup) (o:(ν.take k)=(List.range k).map aA):qL C j k r Sout e sl H :=
 ⟨he,vs,f,h,ν,h1,h2,B,A,F,λi hi=>by
  have:(ν.take k)[i]? = ((List.range k).map aA)[i]? := by rw [o]
  rw [List.getElem?_take,if_pos hi]at this
  rw [this];simp [hi]⟩
def rq:Nat->List Box->Hp
 | _,[]=>[]
 | i,b::bs=>(aA i,some b)::rq (i+1) bs
theorem yE:∀{bs:List Box} {i:Nat} {p:Nm×Option Box},p∈rq i bs->∃j b,p=(aA (i+j),some b)/\bs[j]? = some b
 | b::bs,i,p,h=>by
  rcases List.mem_cons.1 h with rfl|h
  ·exact⟨0,b,rfl,rfl⟩
  ·obtain ⟨j,b',h1,h2⟩:=yE h
   exact⟨j+1,b',by rw [h1];congr 2;omega,by simpa using h2⟩
theorem II:∀(bs:List Box) (i:Nat),((rq i bs).map (·.1)).Nodup
 | [],_=>List.nodup_nil
 | b::bs,i=>by
  refine List.nodup_cons.2 ⟨λh => ?_,II bs (i+1)⟩
  obtain ⟨p,f,he⟩:=List.mem_map.1 h
  obtain ⟨j,b',h1,_⟩:=yE f
  rw [h1]at he
  simp only [aA,Prod.mk.injEq,and_true]at he
  omega
theorem FnM.of_wH {P:Program} {f:FuncId} {fn:Func} {body:Code} (C:Cfg) (L:C.P=P) (M:P.funcs[f]? = some fn) (hb:fn.body=some body) (I:C.n=fn.ntmps)
  {args:List V} {Sin:List Box} {r:V} {Sout:List (Option Box)} (hl:args.length<=fn.ntmps) (o:tq C body=true)
  (h:wH C body (qL C fn.results.toList Sin.length r Sout) (Pv args) (rq 0 Sin)):FnM P f args Sin r Sout:=by
 refine FnM.of_wpD' M hb L I hl ?_
 obtain ⟨J,N,B⟩:=h o (kX Sin) 1 ⟨Nat.one_pos,II _ _,λp F=>by
  obtain ⟨j,b,rfl,hb⟩:=yE F
  refine⟨Nat.one_pos,λx A => ?_⟩
  simp only [so_]at A
  subst A
  rw [F5,Nat.zero_add];exact hb⟩
 exact⟨J,N,mW body (λe σ h=>PW h) B⟩
end
end Go.Eng

/-
  THE PLAIN FORMS: how a round ends, loops over a list, loops in general; and what a walk asks of them.
-/
namespace Go.Eng
set_option linter.unusedSectionVars false
variable [DM]
set_option linter.unusedVariables false
inductive Ctl (σ ρ:Type) where
 | go (s:σ)
 | brk (s:σ)
 | ret (r:ρ)
def forR {α σ ρ:Type} (body:Nat->α->σ->Option (Ctl σ ρ)):List α->Nat->σ->Option (Ctl σ ρ)
 | [],_,s=>some (.go s)
 | x::xs,k,s=>(body k x s).bind λc=>match c with
  | .go f=>forR body xs (k+1) f
  | .brk f=>some (.go f)
  | .ret r=>some (.ret r)
def forL {α σ ρ:Type} (xs:List α) (s:σ) (body:Nat->α->σ->Option (Ctl σ ρ)):Option (Ctl σ ρ):=if xs.length<=1000000000000 then forR body xs 0 s else none
def iterN {σ ρ:Type} (body:σ->Option (Ctl σ ρ)):Nat->σ->Option (Ctl σ ρ)
 | 0,_=>none
 | n+1,s=>(body s).bind λc=>match c with
  | .go f=>iterN body n f
  | .brk f=>some (.go f)
  | .ret r=>some (.ret r)
open Classical in
noncomputable def dS {σ ρ:Type} (s:σ) (body:σ->Option (Ctl σ ρ)):Option (Ctl σ ρ):=if h:∃n o,iterN body n s=some o then some h.choose_spec.choose else none
theorem bv {σ ρ:Type} {s:σ} {body:σ->Option (Ctl σ ρ)} {o:Ctl σ ρ} (h:dS s body=some o):∃n,iterN body n s=some o:=by
 unfold dS at h
 split at h
 ·rename_i f
  simp only [so_]at h
  exact⟨f.choose,by rw [f.choose_spec.choose_spec,h]⟩
 ·cases h
theorem Cx {σ ρ:Type} {body:σ->Option (Ctl σ ρ)}:∀{n:Nat} {s:σ} {o:Ctl σ ρ} (m:Nat),iterN body n s=some o->n<=m->iterN body m s=some o
 | 0,_,_,_,h,_=>by cases h
 | n+1,s,o,0,h,j=>by omega
 | n+1,s,o,m+1,h,j=>by
  simp only [iterN,Option.bind_eq_some_iff]at h ⊢
  obtain ⟨c,h1,h2⟩:=h
  refine⟨c,h1,?_⟩
  cases c with
  | go f=>exact Cx m h2 (by omega)
  | brk f=>exact h2
  | ret r=>exact h2
theorem dB {σ ρ:Type} {s:σ} {body:σ->Option (Ctl σ ρ)} {o:Ctl σ ρ} {n:Nat} (h:iterN body n s=some o):dS s body=some o:=by
 have f:∃n o,iterN body n s=some o:=⟨n,o,h⟩
 unfold dS
 rw [dif_pos f]
 have h1:=f.choose_spec.choose_spec
 have h2:=Cx (max n f.choose) h1 (Nat.le_max_right _ _)
 rw [Cx (max n f.choose) h (Nat.le_max_left _ _)]at h2
 exact h2.symm
theorem bind_some {α β:Type} {x:Option α} {f:α->Option β} {r:β} (h:x.bind f=some r):∃a,x=some a/\f a=some r:=Option.bind_eq_some_iff.1 h
theorem aj {α:Type} {c:Bool} {x y:Option α} {r:α} (h:(bif c then x else y)=some r):(c=true/\x=some r)\/(c=false/\y=some r):=by
 cases c with
 | true=>exact .inl ⟨rfl,h⟩
 | false=>exact .inr ⟨rfl,h⟩
theorem aY {α σ ρ:Type} {xs:List α} {s:σ} {body:Nat->α->σ->Option (Ctl σ ρ)} {o:Ctl σ ρ} (h:forL xs s body=some o):xs.length<=1000000000000/\forR body xs 0 s=some o:=by
 unfold forL at h
 split at h
 ·exact⟨‹_›,h⟩
 ·cases h
theorem drop_nil {α:Type} {xs:List α} {k:Nat} (h:xs.drop k=[]):decide ((k:Int)<(xs.length:Int))=false:=by
 have:=List.drop_eq_nil_iff.1 h
 simp;omega
theorem Gl {α:Type} {xs l:List α} {x:α} {k:Nat} (h:xs.drop k=x::l):k<xs.length:=by
 have h1:(xs.drop k).length=(x::l).length:=by rw [h]
 simp at h1;omega
theorem bu {α:Type} {xs l:List α} {x:α} {k:Nat} (h:xs.drop k=x::l):decide ((k:Int)<(xs.length:Int))=true:=by
 have:=Gl h
 simp;omega
theorem bI {α:Type} {xs l:List α} {x:α} {k:Nat} (h:xs.drop k=x::l):idx xs (k:Int)=some x:=by
 have h1:(xs.drop k)[0]? = some x:=by rw [h];rfl
 rw [List.getElem?_drop]at h1
 simp only [idx]
 rw [if_pos (by omega)]
 simpa using h1
theorem yA {α:Type} {xs l:List α} {x:α} {k:Nat} (h:xs.drop k=x::l):xs[k]? = some x:=by
 have h1:(xs.drop k)[0]? = some x:=by rw [h];rfl
 rw [List.getElem?_drop]at h1
 simpa using h1
theorem aX {α:Type} {xs l:List α} {x:α} {k:Nat} (h:xs.drop k=x::l):xs.drop (k+1)=l:=by
 have h1:(xs.drop k).drop 1=l:=by rw [h];rfl
 rwa [List.drop_drop]at h1
theorem Em (n:Int) (h : -9223372036854775808<=n/\n<=9223372036854775807):w64 n=n:=IntWalk.i64_in n h
theorem bz {α:Type} {xs l:List α} {x:α} {k:Nat} (h:xs.drop k=x::l) (hl:xs.length<=1000000000000):w64 ((k:Int)+1)=((k+1:Nat):Int):=by
 have:=Gl h
 rw [Em _ (by omega)];omega
theorem dH {C:Cfg} {sl:Nat->V} {H:Hp} {q:Qm} {all rest:List Oper} {K:(Nat->V)->Hp->Prop} {dst:Option Tmp} {ty:TypeId} {pos:String} {after:Array Edge} {g:Option (Nat×Bool)} {op:Op} {a b:Int} (e:w64 a=b)
  (f:aQ all sl ⟨dst,op,ty,pos,after,g⟩=some true) (j:Fz C sl op=some (vI (w64 a))) (h:aZ q C all K rest (dI sl dst (vI b)) H):aZ q C all K (⟨dst,op,ty,pos,after,g⟩::rest) sl H :=
 aL _ f j (by rw [e];exact h)
end Go.Eng

/-
  THE ENGINE: what the printed proofs use besides.
-/
namespace Go.Eng
set_option linter.unusedSectionVars false
variable [DM]
set_option linter.unusedVariables false
set_option linter.unusedSimpArgs false
def eK (k:IntKind) (n:Int):List D:=[.int k n]
def eL {α:Type} (enc:α->List D) (xs:List α):List D:=[dl enc xs]
abbrev sEq (a b:ByteArray):Bool:=a.toList==b.toList
abbrev sNe (a b:ByteArray):Bool := !(a.toList==b.toList)
abbrev sLt (a b:ByteArray):Bool:=Op.bytesLess a.toList b.toList
abbrev sLe (a b:ByteArray):Bool:=Op.bytesLess a.toList b.toList||a.toList==b.toList
abbrev KC (a b:Int):Int:=if b<a then b else a
abbrev jE (a b:Int):Int:=if b>a then b else a
abbrev ED (k:IntKind) (a b:Int):Int:=k.wrap (BitVec.ofInt k.bits a &&& BitVec.ofInt k.bits b).toNat
abbrev wS (k:IntKind) (a b:Int):Int:=k.wrap (BitVec.ofInt k.bits a ^^^ BitVec.ofInt k.bits b).toNat
def KE (k:IntKind) (a b:Int):Option Int:=if b=0 then none else some (k.wrap (a.tdiv b))
def Nv (k:IntKind) (a b:Int):Option Int:=if b=0 then none else some (a.tmod b)
def shlO (k:IntKind) (a b:Int):Option Int:=if b<0 then none else some (k.wrap (a*2 ^ (min b.toNat k.bits)))
def K7 (k:IntKind) (a b:Int):Option Int:=if b<0 then none else some (a.fdiv (2 ^ (min b.toNat k.bits)))
def AV (s:ByteArray) (i:Int):Option UInt8:=if 0<=i then s[i.toNat]? else none
def LJ (s:ByteArray) (lo hi:Int):Option ByteArray:=if 0<=lo/\0<=hi/\lo.toNat<=hi.toNat/\hi.toNat<=s.size then some (s.extract lo.toNat hi.toNat)else none
def Mm {α:Type} (xs:List α) (lo hi:Int):Option (List α):=if 0<=lo/\0<=hi/\lo.toNat<=hi.toNat/\hi.toNat<=xs.length then some ((xs.take hi.toNat).drop lo.toNat)else none
def inR {α:Type} (i:Int) (xs:List α):Option Unit:=if 0<=i/\i.toNat<xs.length then some ()else none
theorem iC {α:Type} {i:Int} {xs:List α} {u:Unit} (h:inR i xs=some u):0<=i:=by
  unfold inR at h;split at h
  · rename_i h1;exact h1.1
  · cases h
theorem dL {α:Type} {i:Int} {xs:List α} {u:Unit} (h:inR i xs=some u):i.toNat<xs.length:=by
  unfold inR at h;split at h
  · rename_i h1;exact h1.2
  · cases h
def thenC {σ ρ τ:Type} (o:Ctl σ ρ) (f:σ->Option τ) (g:ρ->Option τ):Option τ:=match o with
  | .go s=>f s
  | .brk _=>none
  | .ret r=>g r
theorem lH {n:Int} {k:Nat} (h:(List.range n.toNat).drop k=[]):decide ((k:Int)<n)=false:=by
  have:=List.drop_eq_nil_iff.1 h
  simp at this
  simp;omega
theorem kw {n:Int} {k x:Nat} {l:List Nat} (h:(List.range n.toNat).drop k=x::l):decide ((k:Int)<n)=true:=by
  have:=Gl h
  simp at this
  simp;omega
theorem lD {n:Int} {k x:Nat} {l:List Nat} (h:(List.range n.toNat).drop k=x::l) (hl:(List.range n.toNat).length<=1000000000000):w64 ((k:Int)+1)=((k+1:Nat):Int):=bz h hl
theorem ae {α:Type} {a b:α} (h:some a=some b):a=b:=Option.some.inj h
section
variable {C:Cfg} {sl:Nat->V} {H:Hp} {Q:QH} {c:Code}
theorem x9 (H:Hp):pre H H:=aG List.take_length
theorem aW {β:Type} {f:β->List (Nat×V)} {h:β->Hp} {R:β->Prop} (x:β) (j:R x) (he:pick (f x) sl=f x) (o:pre (h x) H):Kj f h R sl H:=⟨x,j,he,o⟩
theorem cu {f:Unit->List (Nat×V)} {h:Unit->Hp} (he:pick (f ()) sl=f ():=by rfl) (j:H.take (h ()).length=h ():=by rfl):Kj f h (λ_=>True) sl H:=aW () trivial he (aG j)
theorem aV {β:Type} {f:β->List (Nat×V)} {h:β->Hp} {R:β->Prop} {m:β->Nat} {x:β} (x':β) (o:R x') (j:m x'<m x) (he:pick (f x') sl=f x') (A:pre (h x') H):loopE f h R m x sl H:=⟨x',o,j,he,A⟩
theorem F4 {α:Type} {enc:α->List D} {xs:List α} {sz:Nat} {n:Nm} (i:Nat) (h:H[i]? = some (n,some (bV sz enc xs))) (o:wH C c Q sl (H.set i (n,some (bF sz enc xs)))):wH C c Q sl H :=
  wM o (λS t f=>⟨freezeAll S [n],Gst.froz ⟨sl,S,t⟩ n,by rw [freeze1 (f.get h)];exact f.set h (λx j=>j)⟩)
theorem iA {α:Type} {enc:α->List D} {xs:List α} {sz:Nat} {n:Nm} (i:Nat) (h:H[i]? = some (n,gB sz enc xs)) (f:wH C c Q sl (H.set i (n,gF sz enc xs))):wH C c Q sl H:=by
  cases xs with
  | nil=>exact wM f (λS t j=>⟨S,.refl _,j.drop h⟩)
  | cons x xs=>exact F4 i h f
theorem Fa {α:Type} {enc:α->List D} {xs:List α} {sz:Nat} {n:Nm} (k i:Nat) (B:sl k=vV n sz xs) (h:H[i]? = some (n,some (bF sz enc xs))) (j:wH C c Q (upd sl k (vL enc xs)) H):wH C c Q sl H :=
  wM j (λS t f=>⟨S,by
    have:=Gst.co ⟨sl,S,t⟩ k
    have e:co S (sl k)=vL enc xs:=by
      rw [B]
      have o:=f.get h
      have h1:Nat.beq sz sz=true:=Nat.beq_refl sz
      have h2:Nat.ble xs.length xs.length=true:=Nat.ble_eq_true_of_le (Nat.le_refl _)
      have A:(xs.map enc).take xs.length=xs.map enc:=List.take_of_length_le (by simp)
      simp [co,co1,o,h1,h2,A]
    simp only [e]at this
    exact this,f⟩)
theorem cO {α:Type} {enc:α->List D} {xs:List α} {sz:Nat} {n:Nm} (k i:Nat) (j:sl k=gV n sz xs) (h:H[i]? = some (n,gF sz enc xs)) (f:wH C c Q (upd sl k (vL enc xs)) H):wH C c Q sl H:=by
  cases xs with
  | nil =>
    refine wM f (λS t o=>⟨S,?_,o⟩)
    have:=Gst.co ⟨sl,S,t⟩ k
    have e:co S (sl k)=vL enc ([]:List α):=by rw [j];rfl
    simp only [e]at this
    exact this
  | cons x xs=>exact Fa k i j h f
theorem Bi {α:Type} (enc:α->List D) (k:Nat) (j:sl k = .nil) (h:wH C c Q (upd sl k (vL enc [])) H):wH C c Q sl H :=
  wM h (λS t f=>⟨S,by
    have:=Gst.co ⟨sl,S,t⟩ k
    have e:co S (sl k)=vL enc ([]:List α):=by rw [j];rfl
    simp only [e]at this
    exact this,f⟩)
end
section
variable {C:Cfg} {sl:Nat->V} {H:Hp} {q:Qm} {all rest:List Oper} {K:(Nat->V)->Hp->Prop}
variable {dst:Option Tmp} {d:Nat} {t ty:TypeId} {pos:String} {after:Array Edge} {g:Option (Nat×Bool)}
theorem rW {s e:TypeId} {x:Operand} {k k':IntKind} {n:Int} {u:TypeDesc} (h1:C.P.underlying s=some u) (h2:C.P.underlying e=some (.int k)) (f:ev sl x = .d (.int k' n))
    (j:aQ all sl ⟨dst,.convert s e x,ty,pos,after,g⟩=some true) (h:aZ q C all K rest (dI sl dst (.d (.int k (k.wrap n)))) H):aZ q C all K (⟨dst,.convert s e x,ty,pos,after,g⟩::rest) sl H :=
  aL _ j (by show zz C.P s e (ev sl x)=_;rw [f];simp only [zz,h1,h2]) h
theorem Pi {e e':TypeId} {x y:Operand} {k:IntKind} {a b c:Int} (f:ev sl x = .d (.int k a)) (o:ev sl y = .d (.int k b)) (hc:KE k a b=some c) (j:aQ all sl ⟨dst,.binOp .quo e x y e',ty,pos,after,g⟩=some true)
    (h:aZ q C all K rest (dI sl dst (.d (.int k c))) H):aZ q C all K (⟨dst,.binOp .quo e x y e',ty,pos,after,g⟩::rest) sl H :=
  aL _ j (by
    refine yl ?_
    show sH C.P .quo e (ev sl x) (ev sl y)=_
    rw [f,o]
    unfold KE at hc
    split at hc
    · cases hc
    · rename_i hb;simp only [so_]at hc;subst hc;simp [sH,I9,Jd,MH,hb]) h
theorem Sl {e e':TypeId} {x y:Operand} {k:IntKind} {a b c:Int} (f:ev sl x = .d (.int k a)) (o:ev sl y = .d (.int k b)) (hc:Nv k a b=some c) (j:aQ all sl ⟨dst,.binOp .rem e x y e',ty,pos,after,g⟩=some true)
    (h:aZ q C all K rest (dI sl dst (.d (.int k c))) H):aZ q C all K (⟨dst,.binOp .rem e x y e',ty,pos,after,g⟩::rest) sl H :=
  aL _ j (by
    refine yl ?_
    show sH C.P .rem e (ev sl x) (ev sl y)=_
    rw [f,o]
    unfold Nv at hc
    split at hc
    · cases hc
    · rename_i hb;simp only [so_]at hc;subst hc;simp [sH,I9,Jd,MH,hb]) h
theorem h_shl {e e':TypeId} {x y:Operand} {k k':IntKind} {a b c:Int} (f:ev sl x = .d (.int k a)) (o:ev sl y = .d (.int k' b)) (hc:shlO k a b=some c) (j:aQ all sl ⟨dst,.binOp .shl e x y e',ty,pos,after,g⟩=some true)
    (h:aZ q C all K rest (dI sl dst (.d (.int k c))) H):aZ q C all K (⟨dst,.binOp .shl e x y e',ty,pos,after,g⟩::rest) sl H :=
  aL _ j (by
    refine yl ?_
    show sH C.P .shl e (ev sl x) (ev sl y)=_
    rw [f,o]
    unfold shlO at hc
    split at hc
    · cases hc
    · rename_i hb;simp only [so_]at hc;subst hc;simp [sH,I9,Jd,Tz,hb]) h
theorem MP {e e':TypeId} {x y:Operand} {k k':IntKind} {a b c:Int} (f:ev sl x = .d (.int k a)) (o:ev sl y = .d (.int k' b)) (hc:K7 k a b=some c) (j:aQ all sl ⟨dst,.binOp .shr e x y e',ty,pos,after,g⟩=some true)
    (h:aZ q C all K rest (dI sl dst (.d (.int k c))) H):aZ q C all K (⟨dst,.binOp .shr e x y e',ty,pos,after,g⟩::rest) sl H :=
  aL _ j (by
    refine yl ?_
    show sH C.P .shr e (ev sl x) (ev sl y)=_
    rw [f,o]
    unfold K7 at hc
    split at hc
    · cases hc
    · rename_i hb;simp only [so_]at hc;subst hc;simp [sH,I9,Jd,Tz,hb]) h
theorem pR {e e':TypeId} {x y:Operand} {a b c:ByteArray} (f:ev sl x=vS a) (o:ev sl y=vS b) (hc:sW a b=some c) (j:aQ all sl ⟨dst,.binOp .add e x y e',ty,pos,after,g⟩=some true)
    (h:aZ q C all K rest (dI sl dst (vS c)) H):aZ q C all K (⟨dst,.binOp .add e x y e',ty,pos,after,g⟩::rest) sl H :=
  aL _ j (by
    refine yl ?_
    show sH C.P .add e (ev sl x) (ev sl y)=_
    rw [f,o]
    unfold sW at hc
    split at hc
    · cases hc
    · rename_i hb;simp only [so_]at hc;subst hc;simp only [sH,I9,PU,if_neg hb,Option.map_some]) h
theorem TK {e e':TypeId} {x y:Operand} {a b:Bool} (A:C.P.underlying e=some .bool) (f:ev sl x=vB a) (o:ev sl y=vB b) (j:aQ all sl ⟨dst,.binOp .neq e x y e',ty,pos,after,g⟩=some true)
    (h:aZ q C all K rest (dI sl dst (vB (!(a==b)))) H):aZ q C all K (⟨dst,.binOp .neq e x y e',ty,pos,after,g⟩::rest) sl H :=
  aL _ j (by refine yl ?_;show sH C.P .neq e (ev sl x) (ev sl y)=_;rw [f,o];simp only [sH,A]) h
theorem yO {x i:Operand} {s:ByteArray} {k:IntKind} {n:Int} {b:UInt8} (A:C.P.underlying t=some .string) (f:ev sl x=vS s) (hi:ev sl i = .d (.int k n)) (hb:AV s n=some b) (j:aQ all sl ⟨dst,.index t x i,ty,pos,after,g⟩=some true)
    (h:aZ q C all K rest (dI sl dst (.d (.int .u8 (b.toNat:Int)))) H):aZ q C all K (⟨dst,.index t x i,ty,pos,after,g⟩::rest) sl H :=
  aL _ j (by
    show Ao C.P t (ev sl x) (ev sl i)=_
    rw [f,hi]
    unfold AV at hb
    split at hb
    · rename_i o;simp [Ao,A,o,hb]
    · cases hb) h
section sub
variable {x l hi:Operand} {s r:ByteArray} {k k':IntKind} {a b:Int}
theorem sub_val (j:C.P.underlying t=some .string) {lo hi:Option V} {l h:Int} (h1:rE 0 lo=some l.toNat/\0<=l) (h2:rE s.size hi=some h.toNat/\0<=h) (f:LJ s l h=some r):mE C.P t (vS s) lo hi none=some (vS r):=by
  unfold LJ at f
  split at f
  · rename_i hc;simp only [so_]at f;subst f
    simp [mE,j,h1.1,h2.1,hc.2.2.1,hc.2.2.2]
  · cases f
theorem Gt {s r:ByteArray} {l h:Int} (f:LJ s l h=some r):0<=l/\0<=h:=by
  unfold LJ at f;split at f
  · rename_i hc;exact⟨hc.1,hc.2.1⟩
  · cases f
theorem Jw {d:Nat} {k:IntKind} {a:Int} (h:0<=a):rE d (some (.d (.int k a)))=some a.toNat:=by simp [rE,h]
theorem Jq (o:C.P.underlying t=some .string) (j:ev sl x=vS s) (hl:ev sl l = .d (.int k a)) (A:ev sl hi = .d (.int k' b)) (f:LJ s a b=some r) (B:aQ all sl ⟨dst,.slice t x (some l) (some hi) none,ty,pos,after,g⟩=some true)
    (h:aZ q C all K rest (dI sl dst (vS r)) H):aZ q C all K (⟨dst,.slice t x (some l) (some hi) none,ty,pos,after,g⟩::rest) sl H :=
  aL _ B (by
    show mE C.P t (ev sl x) (some (ev sl l)) (some (ev sl hi)) none=_
    rw [j,hl,A];exact sub_val o ⟨Jw (Gt f).1,(Gt f).1⟩ ⟨Jw (Gt f).2,(Gt f).2⟩ f) h
variable {α:Type} {enc:α->List D} {xs ys:List α} {e:TypeId} {sz:Nat}
theorem RQ (A:C.P.underlying t=some (.slice e)) (hs:szT C.P e=some sz) (f:∀y,(enc y).length=sz) {lo hi:Option V} {l h:Int} (h1:rE 0 lo=some l.toNat) (h2:rE xs.length hi=some h.toNat) (o:Mm xs l h=some ys):mE C.P t (vL enc xs) lo hi none=some (vL enc ys):=by
  unfold Mm at o
  split at o
  · rename_i hc;simp only [so_]at o;subst o
    have j:=DF (sz:=sz) f xs
    simp only [mE,A,hs,h1,List.length_map,h2]
    rw [if_pos ⟨hc.2.2.1,hc.2.2.2,j⟩]
    simp [List.map_drop,List.map_take]
  · cases o
theorem Sz {l h:Int} (f:Mm xs l h=some ys):0<=l/\0<=h:=by
  unfold Mm at f;split at f
  · rename_i hc;exact⟨hc.1,hc.2.1⟩
  · cases f
theorem FT (B:C.P.underlying t=some (.slice e)) (hs:szT C.P e=some sz) (f:∀y,(enc y).length=sz) (o:ev sl x=vL enc xs) (hl:ev sl l = .d (.int k a)) (j:Mm xs a xs.length=some ys) (A:aQ all sl ⟨dst,.slice t x (some l) none none,ty,pos,after,g⟩=some true)
    (h:aZ q C all K rest (dI sl dst (vL enc ys)) H):aZ q C all K (⟨dst,.slice t x (some l) none none,ty,pos,after,g⟩::rest) sl H :=
  aL _ A (by
    show mE C.P t (ev sl x) (some (ev sl l)) none none=_
    rw [o,hl];exact RQ B hs f (Jw (Sz j).1) rfl j) h
end sub
theorem h_appn {α:Type} {enc:α->List D} {ys zs:List α} {x y:Operand} {t' e e':TypeId} {sz bytes:Nat} {z:List V} (p:Nat) (R:q=none\/Nat.beq all.length (p+(rest.length+1))=true) (he:bG C.P t=some e) (B:bG C.P t'=some e') (hs:szT C.P e=some sz) (hz:zeroCells C.P e=some z) (Z:z.length=sz) (j:0<sz) (T:fI C.P e=bytes) (hbb:bytes<=100000)
    (I:∀y,(enc y).length=sz) (L:ev sl x = .nil) (hy:ev sl y=vL enc ys) (o:kr [] ys=some zs)
    (hw:aQ all sl ⟨some d,.call ⟨.builtin .append,#[x,y],#[t,t']⟩,ty,pos,after,g⟩=some true)
    (h:∀Y:Nm,aZ (pK q p [Y] true) C all K rest (upd sl d (gV Y sz zs)) (H++[(Y,gB sz enc zs)])):aZ q C all K (⟨some d,.call ⟨.builtin .append,#[x,y],#[t,t']⟩,ty,pos,after,g⟩::rest) sl H:=by
  unfold kr at o
  split at o
  case isFalse=>cases o
  rename_i N
  simp only [so_,List.nil_append]at o
  subst o
  refine vo rfl p [] R (λ_ _ _=>yN) (λm hm=>by cases hm) hw (λS tk K' ok O M => ?_)
  have f:=DF (sz:=sz) I ys
  have F:z.length=sz/\0<sz:=⟨Z,j⟩
  have J:∀m,m<=1000000000->(2*m+192)*fI C.P e<=2 ^ 48/\m<=2 ^ 48:=λm hm=>by
    rw [T]
    have:=Nat.mul_le_mul (show 2*m+192<=2000000192 by omega) hbb
    exact⟨by omega,by omega⟩
  have run:∀{A:Eff},mf C.P t t' S (ev sl x) (ev sl y) d tk=some A->K' A->opD C ⟨some d,.call ⟨.builtin .append,#[x,y],#[t,t']⟩,ty,pos,after,g⟩ sl S tk K':=λo M=>zk (by show (bif p8 C.P t' then _ else _)=_;rw [Aa B,cond_false];exact o) M
  cases ys with
  | nil =>
    refine run (A:=⟨[],[],.nil⟩) ?_ (M _ (H++[((d,tk),none)]) _ (.inl rfl) ⟨by simp,by simp⟩ ?_ (h (d,tk)))
    · rw [L,hy]
      simp only [mf,he,yn B,hs,hz,if_pos F,nC,si,f,if_true]
      rw [if_pos (J _ (by simp))]
      rfl
    · have:=O.new ok rfl (.vec 0 [])
      refine⟨this.pos,by have:=this.nd;simpa using this,λp j => ?_⟩
      rcases List.mem_append.1 j with j|j
      · exact O.tail.at_ p j
      · simp only [List.mem_singleton]at j
        subst j
        exact⟨(this.at_ ((d,tk),some (.vec 0 [])) (by simp)).1,λx L=>by cases L⟩
  | cons W ys =>
    refine run (A:=⟨[],[((d,tk),some (.vec sz ((W::ys).map enc)))],.vs (d,tk) sz 0 (W::ys).length⟩) ?_ (M _ (H++[((d,tk),gB sz enc (W::ys))]) _ (.inl rfl) ⟨by simp,by simp⟩ (O.new ok rfl _) (h (d,tk)))
    rw [L,hy]
    simp only [mf,he,yn B,hs,hz,if_pos F,nC,si,f,if_true]
    rw [if_pos (J _ (by simpa using N))]
    simp
theorem tu:∀(bs:List Box) (i j:Nat) (h:j<bs.length),(rq i bs)[j]? = some (aA (i+j),some bs[j])
  | b::bs,i,0,h=>rfl
  | b::bs,i,j+1,h=>by
    show (rq (i+1) bs)[j]? = _
    rw [tu bs (i+1) j (by simpa using h)]
    simp [Nat.add_assoc,Nat.add_comm 1 j]
theorem Ab {k:Nat}:∀n,okN k n=true->AP ((List.range k).map aA) n=n:=by
  intro n f
  obtain ⟨i,hi,rfl⟩:=wW f
  rw [wZ (by simpa using hi)];simp
theorem EE {k:Nat} {b:Box} (h:b.ok k=true):b.ren ((List.range k).map aA)=b:=by
  cases b with
  | cells sz cs=>simp only [Box.ok]at h;simp only [Box.ren,yM _ k Ab _ h]
  | pmap es =>
    simp only [Box.ren,Box.pmap.injEq]
    exact (List.map_congr_left (λe he=>by rw [CO _ k Ab e.2 (List.all_eq_true.1 h e he)];rfl)).trans (List.map_id _)
  | iter cur left =>
    simp only [Box.ok,Bool.and_eq_true]at h
    simp only [Box.ren,Box.iter.injEq]
    refine⟨?_,(List.map_congr_left (λe he=>by rw [CO _ k Ab e.2 (List.all_eq_true.1 h.2 e he)];rfl)).trans (List.map_id _)⟩
    cases cur with
    | none=>rfl
    | some x=>simp only [Option.map_some,CO _ k Ab x.2 (by simpa using h.1)]
  | _=>rfl
theorem Fh {k:Nat} {S:Store}:∀{ns:List Nm} {bs:List Box},(∀b∈bs,b.ok k=true)->(∀j (h1:j<ns.length) (h2:j<bs.length),S ns[j]=some bs[j])->fu S (eF ((List.range k).map aA) ns (bs.map some))=S
  | [],[],_,_=>rfl
  | [],_::_,_,_=>rfl
  | _::_,[],_,_=>rfl
  | n::ns,b::bs,hb,h=>by
    simp only [List.map_cons,eF,fu,Option.map_some]
    have e:supd S n (some (b.ren ((List.range k).map aA)))=S:=by
      rw [EE (hb b (by simp))]
      funext m
      simp only [supd]
      split
      · rename_i o;rw [o];exact (h 0 (by simp) (by simp)).symm
      · rfl
    rw [e]
    exact Fh (λb f=>hb b (by simp [f])) (λj h1 h2=>h (j+1) (by simpa using h1) (by simpa using h2))
theorem Gp {f:Operand} {args:List Operand} {I:Array TypeId} {fn:FuncId} {caps o:List V} {r:V} {Sin:List Box} (hc:FnM C.P fn o Sin r (Sin.map some)) (hf:ev sl f = .fn fn caps) (hb:aJ C.P fn=true)
    (J:(args.map (ev sl)).flatMap frz=[]) (ha:(args.map (ev sl)).map co0++caps=o) (hcap:caps.flatMap frz=[]/\caps.map co0=caps) (F:okL Sin.length o=true) (M:∀b∈Sin,b.ok Sin.length=true) (hm:∀b∈Sin,b.mut=true)
    (T:okV 0 r=true)
    (Z:aQ all sl ⟨some d,.call ⟨.value f,args.toArray,I⟩,ty,pos,after,g⟩=some true) (hH:H=rq 0 Sin) (h:aZ none C all K rest (upd sl d r) H):aZ none C all K (⟨some d,.call ⟨.value f,args.toArray,I⟩,ty,pos,after,g⟩::rest) sl H:=by
  subst hH
  refine Oj Z (λS tk K' ok R hk=>wX hf ?_)
  have L:(args.map (ev sl)++caps).flatMap frz=[]:=by rw [List.flatMap_append,J,hcap.1];rfl
  have A:∀j (h:j<Sin.length),S (aA j)=some Sin[j]:=λj h=>by
    have:=tu Sin 0 j h
    rw [Nat.zero_add]at this
    exact R.get this
  have B:(args.map (ev sl)++caps).map (co S)=renL ((List.range Sin.length).map aA) o:=by
    rw [Cu L,List.map_append,hcap.2,ha,yM _ _ Ab _ F]
  refine .inl ⟨hb,⟨[],(List.range Sin.length).map aA,o,Sin,r,Sin.map some,false⟩,?_,(λe=>by cases e),?_⟩
  · exact { does := hc
            args:=ArgsOK.of_map B
            okA:=by simp only [List.length_map,List.length_range];exact F
            nodup:=by
              refine List.Pairwise.map _ (λx y N e => ?_) List.nodup_range
              simp only [aA,Prod.mk.injEq,and_true]at e
              exact N (by omega)
            ins:=by
              refine yf (by simp) (λj h1 h2=>⟨by simp only [List.length_map,List.length_range];exact M _ (List.getElem_mem h2),?_⟩)
              rw [EE (M _ (List.getElem_mem h2))]
              simp only [List.getElem_map,List.getElem_range]
              exact A j h2
            len:=by simp
            okR:=xc (Nat.zero_le _) _ T
            okO:=by
              have:∀{l:List Box} {k:Nat},(∀b∈l,b.ok k=true)->okOut k (l.map some)=true:=by
                intro l k
                induction l with
                | nil=>exact λ_=>rfl
                | cons b l ih=>exact λh=>by simp only [List.map_cons,okOut,Bool.and_eq_true];exact⟨h b (by simp),ih (λx Y=>h x (by simp [Y]))⟩
              exact this (by simpa using M)
            mutN:=by
              show mutOut ((Sin.map some).drop Sin.length)=true
              rw [List.drop_of_length_le (by simp)];rfl
            roOK:=(λe=>by cases e),have_:=(λn J=>nomatch J),cov:=(λn W=>by rw [L]at W;cases W),dis:=(λn _ J=>nomatch J) }
  · have O:(Sin.map some).length-Sin.length=0:=by simp
    have e1:CallData.eff ⟨[],(List.range Sin.length).map aA,o,Sin,r,Sin.map some,false⟩ S d tk=⟨(((List.range Sin.length).map aA).zip Sin).map (λp=>(p.1,p.2.ren ((List.range Sin.length).map aA))),eF ((List.range Sin.length).map aA) ((List.range Sin.length).map aA) (Sin.map some),r⟩:=by
      simp only [CallData.eff,cond_false,CallData.names,O,ou,List.range_zero,List.map_nil,List.append_nil,ic,ig,List.nil_append,wC T]
    show K' (CallData.eff _ S d tk)
    rw [e1]
    refine hk _ (rq 0 Sin) ?_ h
    show AgR _ (fu S (eF _ ((List.range Sin.length).map aA) (Sin.map some))) tk rest
    rw [Fh (λb hb=>M b hb) (λj h1 h2=>by simp only [List.getElem_map,List.getElem_range];exact A j h2)]
    exact R.tail
theorem Rx {o:List ResultVar} {r:V} {e:Exit} {Sin:List Box} (F:∀b∈Sin,b.ok Sin.length=true) (he:e = .normal\/e = .ret) (vs:List V) (h1:Hr C sl (rq 0 Sin) o vs) (h2:vs.flatMap frz=[]) (I:Jg (vs.map co0)=r) (J:okV 0 r=true):qL C o Sin.length r (Sin.map some) e sl (rq 0 Sin):=by
  have hc:∀{vs:List V},vs.flatMap frz=[]->CoL (rq 0 Sin) vs (vs.map co0):=by
    intro vs
    induction vs with
    | nil=>exact λ_ => .nil
    | cons v vs f=>exact λh => .cons (oh (vO h v (by simp)) rfl) (f (by simp only [List.flatMap_cons,List.append_eq_nil_iff]at h;exact h.2))
  have ho:∀{l:List Box} {k j:Nat} {H:Hp},(∀b∈l,b.ok k=true)->(∀i (h:i<l.length),H[j+i]? = some (aA (j+i),some l[i]))->A9 H ((List.range k).map aA) (List.range' j l.length) ((List.range' j l.length).map aA) (l.map some):=by
    intro l
    induction l with
    | nil=>exact λ_ _=>trivial
    | cons b l f =>
      intro k j H hb A
      simp only [List.length_cons,List.range'_succ,List.map_cons]
      refine⟨?_,f (λx B=>hb x (by simp [B])) (λi hi => ?_)⟩
      · have:=A 0 (by simp)
        simp only [Option.map_some,EE (hb b (by simp))]
        exact this
      · have:=A (i+1) (by simpa using hi)
        rw [show j+1+i=j+(i+1) by omega]
        exact this
  refine⟨he,vs,_,List.range' 0 Sin.length,(List.range' 0 Sin.length).map aA,h1,hc h2,by rw [I,wC J],?_,List.nodup_range' ,λi hi=>by simp [hi]⟩
  have:=ho (k:=Sin.length) (j:=0) (H:=rq 0 Sin) F (λi hi=>by have:=tu Sin 0 i hi;simpa using this)
  rw [List.range_eq_range']at this
  exact this
end
end Go.Eng

/-
  THE ENGINE: functions without a body; new slices that a call hands back; elements of a slice that began as nil.
-/
namespace Go.Eng
set_option linter.unusedSectionVars false
variable [DM]
set_option linter.unusedVariables false
set_option linter.unusedSimpArgs false
def Av (a b:ByteArray):Int:=Lib.compareBytes a.data.toList b.data.toList
theorem xq.two {G:Gh} {w:World} {f:List Value} {a b:V} (h:xq G w f [a,b]):∃x y,f=[x,y]/\RepV G w x a/\RepV G w y b:=by
 obtain ⟨hl,h⟩:=h
 match f,hl with
 | [x,y],_=>exact⟨x,y,rfl,h 0 (by simp) (by simp),h 1 (by simp) (by simp)⟩
theorem RepV.int_inv {G:Gh} {w:World} {v:Value} {k:IntKind} {n:Int} (h:RepV G w v (.d (.int k n))):v = .int k n:=by
 have:=h.d_inv
 generalize f:D.int k n=x at this
 cases this with
 | int k' j=>cases f;rfl
 | _=>cases f
theorem RepV.str_inv {G:Gh} {w:World} {v:Value} {s:ByteArray} (h:RepV G w v (vS s)):v = .string s:=by
 have:=h.d_inv
 generalize f:D.str s=x at this
 cases this with
 | str j=>cases f;rfl
 | _=>cases f
theorem TG {P : Program} {f : FuncId} {fn : Func} (B : P.funcs[f]? = some fn) (h1 : (fn.name == "runtime.NumGoroutine") = false) (h2 : fn.body.isNone = true) (A : Extern.findNext fn = none) (F : Extern.find fn = some Extern.BytealgCompare.compare)
  (a b:ByteArray):ExtM P f [vS a,vS b] (.int .i64 (Av a b)):=by
 intro G w j h
 obtain ⟨x,y,rfl,o,I⟩:=h.two
 rw [o.str_inv,I.str_inv]
 refine⟨.int .i64 (Av a b),?_,.int _ _⟩
 show (callFunc f #[.string a,.string b]).run P w=_
 rw [run_callFunc_extern B h1 h2 A F,Lib.run_compareString];rfl
theorem R9 {Sin:List Box} {k:Nat} (h:Sin.all (λb=>b.ok k)=true):∀b∈Sin,b.ok k=true:=λb hb=>List.all_eq_true.1 h b hb
theorem PZ {Sin:List Box} (h:Sin.all (λb=>b.mut)=true):∀b∈Sin,b.mut=true:=λb hb=>List.all_eq_true.1 h b hb
theorem jg {α:Type} {n:Nm} {sz:Nat} {xs ys:List α} (h:xs.length=ys.length):gV n sz xs=gV n sz ys:=by
 cases xs with
 | nil=>cases ys with
  | nil=>rfl
  | cons y ys=>simp at h
 | cons x xs=>cases ys with
  | nil=>simp at h
  | cons y ys=>simp only [gV,h]
theorem xL {α:Type} {n:Nm} {sz:Nat} {xs ys:List α} (h:xs.length=ys.length):vV n sz xs=vV n sz ys:=by simp only [vV,h]
theorem Nz {α:Type} {n:Nm} {sz:Nat} {xs:List α} (h:xs ≠ []):vV n sz xs=gV n sz xs:=by
 cases xs with
 | nil=>exact absurd rfl h
 | cons x xs=>rfl
def gO {α:Type} (sz:Nat) (enc:α->List D):List α->List (Option Box)
 | []=>[]
 | x::xs=>[some (.vec sz ((x::xs).map enc))]
theorem Q0 {α:Type} {r:List α} (h:((kr ([]:List α) []).bind λa=>some a)=some r):some ([]:List α)=some r:=by simpa [kr]using h
section
variable {C:Cfg} {sl:Nat->V} {H:Hp} {q:Qm} {all rest:List Oper} {K:(Nat->V)->Hp->Prop}
variable {dst:Option Tmp} {d:Nat} {t ty:TypeId} {pos:String} {after:Array Edge} {g:Option (Nat×Bool)}
theorem bS (k:Nat) {v v':V} (f:sl k=v) (e:v=v') (h:aZ q C all K rest (upd sl k v') H):aZ q C all K rest sl H:=by
 have:upd sl k v'=sl:=by
  funext j
  simp only [upd]
  cases hj:Nat.beq j k with
  | true=>rw [Nat.eq_of_beq_eq_true hj,f,e];rfl
  | false=>rfl
 rw [this]at h;exact h
theorem KV (h:∀n:Nm,aZ q C all K rest sl (H++[(n,none)])):aZ q C all K rest sl H:=λS tk ok j=>by
 have o:∃m:Nat,∀p∈H,p.1.1<m:=by
  clear h j
  induction H with
  | nil=>exact⟨0,λp f=>by cases f⟩
  | cons x H I =>
   obtain ⟨m,A⟩:=I
   refine⟨max m (x.1.1+1),λp f => ?_⟩
   rcases List.mem_cons.1 f with rfl|f
   ·omega
   ·have:=A p f;omega
 obtain ⟨m,A⟩:=o
 refine h (m,0) S tk ok ⟨j.pos,?_,λp f => ?_⟩
 ·rw [List.map_append,List.nodup_append]
  refine⟨j.nd,by simp,λa F b hb e => ?_⟩
  simp only [List.map_cons,List.map_nil,List.mem_singleton]at hb
  obtain ⟨p,f,rfl⟩:=List.mem_map.1 F
  have:=A p f
  rw [e,hb]at this
  exact Nat.lt_irrefl _ this
 ·rcases List.mem_append.1 f with f|f
  ·exact j.at_ p f
  ·simp only [List.mem_singleton]at f
   subst f
   exact⟨.inl j.pos,λx B=>by cases B⟩
theorem Pk {α:Type} {enc:α->List D} {sz:Nat} {xs:List α} {f:Operand} {args:List Operand} {L:Array TypeId} {fn:FuncId} {caps A:List V} {Sin outs:List Box} (o:List Nat) {l:List (Nm×Box)}
  (hc:FnM C.P fn A Sin (gV (aA o.length) sz xs) (outs.map some++gO sz enc xs))
  (hf:ev sl f = .fn fn caps) (hb:aJ C.P fn=true) (hl:oP H o=some l) (hS:Sin.map (λb=>b.ren (l.map (·.1)))=l.map (·.2)) (B:Sin.all (λb=>b.ok o.length)=true)
  (Z:((args.map (ev sl)++caps).flatMap frz).all (λn=>false)=true) (T:(args.map (ev sl)++caps).map co0=renL (l.map (·.1)) A) (J:okL o.length A=true)
  (j:outs.length=o.length) (hi:o.Nodup) (O:outs.all (λb=>b.ok 0)=true)
  (R:aQ all sl ⟨some d,.call ⟨.value f,args.toArray,L⟩,ty,pos,after,g⟩=some true)
  (W:Hp) (Y:∀ν,setH H (Eng.outs ν o (l.map (·.1)) (outs.map some))=W)
  (h:∀n:Nm,aZ none C all K rest (upd sl d (gV n sz xs)) (W++[(n,gB sz enc xs)])) :
  aZ none C all K (⟨some d,.call ⟨.value f,args.toArray,L⟩,ty,pos,after,g⟩::rest) sl H:=by
 have M:=(mX hl).1
 have F:∀{k:Nat} {os:List Box},os.all (λb=>b.ok 0)=true->okOut k (os.map some)=true:=by
  intro k os
  induction os with
  | nil=>exact λ_=>rfl
  | cons b os I =>
   intro h
   simp only [List.all_cons,Bool.and_eq_true]at h
   simp only [List.map_cons,okOut,Bool.and_eq_true]
   exact⟨Box.ok_mono (Nat.zero_le _) h.1,I h.2⟩
 cases xs with
 | nil =>
  have N:FnM C.P fn A Sin .nil (outs.map some):=by simpa [gO,gV]using hc
  refine K5 o 0 N hf hb hl hS B Z T J rfl (by simp [j]) hi (F O) (by rw [List.drop_of_length_le (by simp [j])];rfl) R (λν => ?_)
  simp only [List.range_zero,List.map_nil,List.append_nil,news,Y]
  exact KV (λn=>h n)
 | cons x xs =>
  refine K5 (r:=gV (aA o.length) sz (x::xs)) (Sout:=outs.map some++[some (.vec sz ((x::xs).map enc))]) o 1 hc hf hb hl hS B Z T J ?_ (by simp [j]) hi ?_ ?_ R (λν => ?_)
  ·exact Uf (by simp [j]) _
  ·have:∀{k:Nat} {a b:List (Option Box)},okOut k a=true->okOut k b=true->okOut k (a++b)=true:=by
    intro k a b
    induction a with
    | nil=>exact λ_ h=>h
    | cons y a I =>
     intro h1 h2
     cases y with
     | none=>exact I h1 h2
     | some y=>simp only [List.cons_append,okOut,Bool.and_eq_true]at h1 ⊢;exact⟨h1.1,I h1.2 h2⟩
   exact this (F O) rfl
  ·rw [List.drop_append_of_le_length (by simp [j]),List.drop_of_length_le (by simp [j])];rfl
  ·have e1:ren (l.map (·.1)++(List.range 1).map ν) (gV (aA o.length) sz (x::xs))=gV (ν 0) sz (x::xs):=by
    rw [Ty,tJ]
    simp [M]
   have e2:∀ν,Eng.outs ν o (l.map (·.1)) (outs.map some++[some (.vec sz ((x::xs).map enc))])=Eng.outs ν o (l.map (·.1)) (outs.map some):=by
    intro ν
    have:∀(o:List Nat) (ns:List Nm) (a b:List (Option Box)),o.length=a.length->Eng.outs ν o ns (a++b)=Eng.outs ν o ns a:=by
     intro o
     induction o with
     | nil=>intro ns a b h;cases a with
      | nil=>cases b <;> rfl
      | cons _ _=>simp at h
     | cons i o I=>intro ns a b h;cases a with
      | nil=>simp at h
      | cons y a=>cases ns with
       | nil=>rfl
       | cons n ns=>simp only [List.cons_append,Eng.outs];rw [I ns a b (by simpa using h)]
    exact this _ _ _ _ (by simp [j])
   rw [e1,e2,Y]
   rw [List.drop_append_of_le_length (by simp [j]),List.drop_of_length_le (by simp [j])]
   exact h (ν 0)
theorem zn {α:Type} {xs:List α} {x i:Operand} {k:IntKind} {n:Int} {nm:Nm} {size:Nat} (A:(bG C.P t).bind (szT C.P)=some size) (f:ev sl x=gV nm size xs) (hi:ev sl i = .d (.int k n)) (o:0<=n) (h1:n.toNat<xs.length)
  (j:aQ all sl ⟨dst,.indexAddr t x i,ty,pos,after,g⟩=some true) (h:aZ q C all K rest (dI sl dst (.ref nm (0+n.toNat) 0)) H):aZ q C all K (⟨dst,.indexAddr t x i,ty,pos,after,g⟩::rest) sl H:=by
 cases xs with
 | nil=>simp at h1
 | cons y ys=>exact zK A f hi o h1 j h
theorem ku {α:Type} {enc:α->List D} {xs:List α} {y:α} {x:Operand} {size:Nat} {agg:Bool} {n:Nm} {i j sz:Nat} (p k:Nat) (L:q=none\/Nat.beq all.length (p+(rest.length+1))=true) (F:∀S tk,AgR H S tk (⟨dst,.load t x,ty,pos,after,g⟩::rest)->okQ q all p [n] false) (hs:szT C.P t=some size) (B:bU C.P t=agg) (o:ev sl x = .ref n i j) (J:H[k]? = some (n,gB sz enc xs)) (f:xs[i]? = some y)
  (v:V) (I:rdD agg size ((enc y).drop j)=some v)
  (A:aQ all sl ⟨dst,.load t x,ty,pos,after,g⟩=some true) (h:aZ (pK q p [n] false) C all K rest (dI sl dst v) H):aZ q C all K (⟨dst,.load t x,ty,pos,after,g⟩::rest) sl H:=by
 cases xs with
 | nil=>simp at f
 | cons z zs=>exact EW p k L F hs B o J f v I A h
theorem sj {α:Type} {enc:α->List D} {xs:List α} {e:α} {x y:Operand} {size:Nat} {n:Nm} {i j sz:Nat} (p:Nat) (J:q=none\/Nat.beq all.length (p+(rest.length+1))=true) (B:∀S tk,AgR H S tk (⟨dst,.store t x y,ty,pos,after,g⟩::rest)->okQ q all p [n] true) (k:Nat) (hs:szT C.P t=some size) (o:ev sl x = .ref n i j) (I:H[k]? = some (n,gB sz enc xs)) (f:xs[i]? = some e) (e':α) (F:stD size (enc e) j (ev sl y)=some (enc e'))
  (A:aQ all sl ⟨dst,.store t x y,ty,pos,after,g⟩=some true) (h:aZ (pK q p [n] true) C all K rest (dI sl dst .none) (H.set k (n,gB sz enc (xs.set i e')))):aZ q C all K (⟨dst,.store t x y,ty,pos,after,g⟩::rest) sl H:=by
 cases xs with
 | nil=>simp at f
 | cons z zs =>
  refine De p J B k hs o I f e' F A ?_
  have:gB sz enc ((z::zs).set i e')=some (bV sz enc ((z::zs).set i e')):=by cases i <;> rfl
  rw [this]at h;exact h
theorem finG {α:Type} {enc:α->List D} {sz t:Nat} {xs:List α} {n:Nm} {outs:List Box} {e:Exit} (he:e = .normal\/e = .ret) (j:Nat) (h1:sl t=gV n sz xs) (h2:H[j]? = some (n,gB sz enc xs)) (hj:Nat.ble outs.length j=true) (F:outs.all (λb=>b.ok 0)=true)
  (M:H.take outs.length=rq 0 outs):qL C [.tmp t] outs.length (gV (aA outs.length) sz xs) (outs.map some++gO sz enc xs) e sl H:=by
 have hj:=Nat.le_of_ble_eq_true hj
 have f:∀i (h:i<outs.length),H[i]? = some (aA i,some outs[i]):=λi hi=>by
  have:=tu outs 0 i hi
  rw [Nat.zero_add,<- M,List.getElem?_take,if_pos hi]at this
  exact this
 have ho:∀{ν:List Nm} {l:List Box} {j:Nat} {A:List Nat} {ns:List Nm} {bs:List (Option Box)},(∀b∈l,b.ok 0=true)->(∀i (h:i<l.length),H[j+i]? = some (aA (j+i),some l[i]))->A9 H ν A ns bs->A9 H ν (List.range' j l.length++A) ((List.range' j l.length).map aA++ns) (l.map some++bs):=by
  intro ν l
  induction l with
  | nil=>exact λ_ _ h=>h
  | cons b l L =>
   intro j A ns bs hb B N
   simp only [List.length_cons,List.range'_succ,List.map_cons,List.cons_append]
   refine⟨?_,L (λx I=>hb x (by simp [I])) (λi hi => ?_) N⟩
   ·have:=B 0 (by simp)
    simp only [Option.map_some,vG (hb b (by simp))]
    exact this
   ·have:=B (i+1) (by simpa using hi)
    rw [show j+1+i=j+(i+1) by omega]
    exact this
 have o:∀b∈outs,b.ok 0=true:=λb hb=>List.all_eq_true.1 F b hb
 cases xs with
 | nil =>
  refine⟨he,[.nil],[.nil],List.range' 0 outs.length++[],(List.range' 0 outs.length).map aA++[],⟨h1,trivial⟩,.cons (.inl rfl) .nil,rfl,ho o (λi hi=>by rw [Nat.zero_add];exact f i hi) trivial,by simp [List.nodup_range'],λi hi=>by simp [hi]⟩
 | cons x xs =>
  refine⟨he,[.vs n sz 0 (x::xs).length],[.vs n sz 0 (x::xs).length],List.range' 0 outs.length++[j],(List.range' 0 outs.length).map aA++[n],⟨h1,trivial⟩,.cons (.inl rfl) .nil,?_,
   ho o (λi hi=>by rw [Nat.zero_add];exact f i hi) ⟨h2,trivial⟩,?_,λi hi=>by rw [List.getElem?_append_left (by simpa using hi)];simp [hi]⟩
  ·show V.vs n sz 0 (x::xs).length=ren _ (.vs (aA outs.length) sz 0 (x::xs).length)
   simp only [ren]
   rw [tJ]
   rw [List.getElem?_append_right (by simp)];simp
  ·rw [List.nodup_append]
   refine⟨List.nodup_range',by simp,λa J b hb => ?_⟩
   simp only [List.mem_singleton]at hb
   simp only [List.mem_range'_1]at J
   omega
end
section
variable {C:Cfg} {sl:Nat->V} {H:Hp} {q:Qm} {all rest:List Oper} {K:(Nat->V)->Hp->Prop} {Q:QH} {c:Code}
variable {dst:Option Tmp} {d:Nat} {t ty:TypeId} {pos:String} {after:Array Edge} {g:Option (Nat×Bool)}
theorem aa {op:Op} (v:V) (h:aZ q C all K rest (dI sl dst v) H) (f:Fz C sl op=some v:=by exact rfl):aZ q C all K (⟨dst,op,ty,pos,after,none⟩::rest) sl H:=aL v wz f h
theorem ah {j:Nat} {f b:Bool} {o:Nat} {op:Op} (h:aZ q C all K rest (dI sl dst .none) H) (h1:(all[j]?).bind (·.dst)=some o:=by exact rfl) (h2:sl o = .d (.bool b):=by exact rfl) (A:(b==f)=false:=by exact rfl) :
  aZ q C all K (⟨dst,op,ty,pos,after,some (j,f)⟩::rest) sl H:=dJ (wg h1 h2 A) h
theorem aR (f:List (Nat×V)) (h:Hp) (h1:wH C c (Nq (Kj (λ_:Unit=>f) (λ_=>h) (λ_=>True)) Q) sl H) (h2:∀x:Unit,True->∀sl' j,Eng.pick f sl'=f->Eng.pre h j->Q .normal sl' j):wH C c Q sl H :=
 lu (λ_:Unit=>f) (λ_=>h) (λ_=>True) h1 h2
theorem ai {id:Nat} {ops:List Oper} {b:Code} (h:aZ none C ops (λsl H=>wH C b Q sl H) ops sl H):wH C (.seq (.region id ops.toArray false) b) Q sl H:=ak (au h)
theorem aN {f:List ResultVar} {r:V} (vs:List V) (h1:Hr C sl H f vs) (h2:(vs.flatMap frz).all (λ_=>false)=true:=by exact rfl) (h:Jg (vs.map co0)=r:=by exact rfl) (j:okV 0 r=true:=by exact rfl):qL C f 0 r [] .ret sl H:=fin0 (.inr rfl) vs h1 h2 h j
theorem cB {id:Nat} {σ ρ:Type} (f:σ->List (Nat×V)) (j:σ->Hp) (h:Nat->σ->List (Nat×V)) (body:σ->Option (Ctl σ ρ)) (o:Ctl σ ρ) (n:Nat) (A:σ) (hj:iterN body n A=some o) (he:Eng.pick (h n A) sl=h n A) (F:Eng.pre (j A) H)
  (h1:∀x:Nat×σ,iterN body x.1 x.2=some o->wH C c (JP (λp:Nat×σ=>h p.1 p.2) (λp=>j p.2) (λp=>iterN body p.1 p.2=some o) (λp=>p.1) x (N8 id (Nq (Kj f j (λp=>o = .go p)) Q))) (envS (h x.1 x.2)) (j x.2))
  (h2:∀x,o = .go x->∀sl' B,Eng.pick (f x) sl'=f x->Eng.pre (j x) B->Q .normal sl' B):wH C (.block id (.loop c)) Q sl H :=
 lu f j (λp=>o = .go p) (aM (Dj (β:=Nat×σ) (λp=>h p.1 p.2) (λp=>j p.2) (λp=>iterN body p.1 p.2=some o) (λp=>p.1) (n,A) hj he F h1)) h2
theorem yD {id:Nat} {σ ρ N:Type} (f:(σ×N)->List (Nat×V)) (j:(σ×N)->Hp) (h:Nat->(σ×N)->List (Nat×V)) (body:σ->Option (Ctl σ ρ)) (o:Ctl σ ρ) (n:Nat) (A:(σ×N)) (hj:iterN body n A.1=some o) (he:Eng.pick (h n A) sl=h n A) (F:Eng.pre (j A) H)
  (h1:∀x:Nat×(σ×N),iterN body x.1 x.2.1=some o->wH C c (JP (λp:Nat×(σ×N)=>h p.1 p.2) (λp=>j p.2) (λp=>iterN body p.1 p.2.1=some o) (λp=>p.1) x (N8 id (Nq (Kj f j (λp=>o = .go p.1)) Q))) (envS (h x.1 x.2)) (j x.2))
  (h2:∀x,o = .go x.1->∀sl' B,Eng.pick (f x) sl'=f x->Eng.pre (j x) B->Q .normal sl' B):wH C (.block id (.loop c)) Q sl H :=
 lu f j (λp=>o = .go p.1) (aM (Dj (β:=Nat×(σ×N)) (λp=>h p.1 p.2) (λp=>j p.2) (λp=>iterN body p.1 p.2.1=some o) (λp=>p.1) (n,A) hj he F h1)) h2
theorem bN {id:Nat} {σ ρ α:Type} (f:σ->List (Nat×V)) (j:σ->Hp) (h:Nat->σ->List (Nat×V)) (body:Nat->α->σ->Option (Ctl σ ρ)) (o:Ctl σ ρ) (xs:List α) (A:σ) (hj:forR body xs 0 A=some o) (he:Eng.pick (h 0 A) sl=h 0 A) (F:Eng.pre (j A) H)
  (h1:∀x:Nat×List α×σ,(forR body x.2.1 x.1 x.2.2=some o/\xs.drop x.1=x.2.1)->wH C c (JP (λp:Nat×List α×σ=>h p.1 p.2.2) (λp=>j p.2.2) (λp=>forR body p.2.1 p.1 p.2.2=some o/\xs.drop p.1=p.2.1) (λp=>p.2.1.length) x (N8 id (Nq (Kj f j (λp=>o = .go p)) Q))) (envS (h x.1 x.2.2)) (j x.2.2))
  (h2:∀x,o = .go x->∀sl' B,Eng.pick (f x) sl'=f x->Eng.pre (j x) B->Q .normal sl' B):wH C (.block id (.loop c)) Q sl H :=
 lu f j (λp=>o = .go p) (aM (Dj (β:=Nat×List α×σ) (λp=>h p.1 p.2.2) (λp=>j p.2.2) (λp=>forR body p.2.1 p.1 p.2.2=some o/\xs.drop p.1=p.2.1) (λp=>p.2.1.length) (0,xs,A) ⟨hj,rfl⟩ he F h1)) h2
theorem iy {id:Nat} {σ ρ N α:Type} (f:(σ×N)->List (Nat×V)) (j:(σ×N)->Hp) (h:Nat->(σ×N)->List (Nat×V)) (body:Nat->α->σ->Option (Ctl σ ρ)) (o:Ctl σ ρ) (xs:List α) (A:(σ×N)) (hj:forR body xs 0 A.1=some o) (he:Eng.pick (h 0 A) sl=h 0 A) (F:Eng.pre (j A) H)
  (h1:∀x:Nat×List α×(σ×N),(forR body x.2.1 x.1 x.2.2.1=some o/\xs.drop x.1=x.2.1)->wH C c (JP (λp:Nat×List α×(σ×N)=>h p.1 p.2.2) (λp=>j p.2.2) (λp=>forR body p.2.1 p.1 p.2.2.1=some o/\xs.drop p.1=p.2.1) (λp=>p.2.1.length) x (N8 id (Nq (Kj f j (λp=>o = .go p.1)) Q))) (envS (h x.1 x.2.2)) (j x.2.2))
  (h2:∀x,o = .go x.1->∀sl' B,Eng.pick (f x) sl'=f x->Eng.pre (j x) B->Q .normal sl' B):wH C (.block id (.loop c)) Q sl H :=
 lu f j (λp=>o = .go p.1) (aM (Dj (β:=Nat×List α×(σ×N)) (λp=>h p.1 p.2.2) (λp=>j p.2.2) (λp=>forR body p.2.1 p.1 p.2.2.1=some o/\xs.drop p.1=p.2.1) (λp=>p.2.1.length) (0,xs,A) ⟨hj,rfl⟩ he F h1)) h2
end
end Go.Eng

