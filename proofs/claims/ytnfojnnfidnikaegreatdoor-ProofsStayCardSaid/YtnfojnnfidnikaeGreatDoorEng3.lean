/-
  The engine: what the machine does to data, shown once for all programs (part 3).
-/
import Derived.Test.YtnfojnnfidnikaeGreatDoorEng2
import Derived.Tactics
import Derived.KernelRfl
import Derived.IntWalk
import Derived.Lib.Bytealg
/-
  THE ENGINE: a function's body as a condition on data ('wpD'), and that the machine meets it.
-/
namespace Go.Eng
set_option linter.unusedSectionVars false
variable [DM]
def mU:List Oper->Bool
  | []=>true
  | o::r=>(match o.dst with
    | some d=>r.all λf=>match f.dst with
      | some h => !(Nat.beq d h)
      | none=>true
    | none=>true)&&mU r
def Cc (C:Cfg) (ops:List Oper):Bool:=ops.all (Bb C)&&mU ops
def envS:List (Nat×V)->Nat->V
  | [],_ => .any
  | (k,v)::l,j=>bif Nat.beq j k then v else envS l j
theorem MJ (sl:Nat->V):∀(ks:List Nat) (j:Nat),envS (ks.map λk=>(k,sl k)) j=sl j\/envS (ks.map λk=>(k,sl k)) j = .any
  | [],_ => .inr rfl
  | k::ks,j=>by
    simp only [List.map_cons,envS]
    cases h:Nat.beq j k with
    | true=>rw [Nat.eq_of_beq_eq_true h];exact .inl rfl
    | false=>exact MJ sl ks j
inductive Gst:St->St->Prop
  | refl (σ:St):Gst σ σ
  | forget (σ:St) (ks:List Nat):Gst σ ⟨envS (ks.map λk=>(k,σ.slots k)),σ.store,σ.tick⟩
  | froz (σ:St) (n:Nm):Gst σ ⟨σ.slots,freezeAll σ.store [n],σ.tick⟩
  | co (σ:St) (k:Nat):Gst σ ⟨upd σ.slots k (co σ.store (σ.slots k)),σ.store,σ.tick⟩
  | coB (σ:St) (n:Nm) (sz:Nat) (cs:List V) (h:σ.store n=some (.cells sz cs)):Gst σ ⟨σ.slots,supd σ.store n (some (.cells sz (cs.map (co1 σ.store)))),σ.tick⟩
  | coM (σ:St) (n:Nm) (sz:Nat) (cs cs':List V) (h:σ.store n=some (.cells sz cs)) (hl:cs'.length=cs.length) (hc:∀j (h1:j<cs'.length) (h2:j<cs.length),cs'[j]=cs[j]\/cs'[j]=co1 σ.store cs[j]):Gst σ ⟨σ.slots,supd σ.store n (some (.cells sz cs')),σ.tick⟩
  | shr (σ:St) (n:Nm) (sz m:Nat) (xs:List (List D)) (h:σ.store n=some (.vec sz xs)):Gst σ ⟨σ.slots,supd σ.store n (some (.vec sz (xs.take m))),σ.tick⟩
  | pm (σ:St) (n:Nm) (h:σ.store n=some (.map [])):Gst σ ⟨σ.slots,supd σ.store n (some (.pmap [])),σ.tick⟩
  | trans {a b c:St}:Gst a b->Gst b c->Gst a c
def FV (C:Cfg) (all:List Oper) (tk:Nat) (K:(Nat->V)->Store->Prop):List Oper->(Nat->V)->Store->Prop
  | [],sl,S=>K sl S
  | o::rest,sl0,f=>∃sl S,Gst ⟨sl0,f,tk⟩ ⟨sl,S,tk⟩/\match aQ all sl o with
    | some true=>(opD C o sl S tk λA=>FV C all tk K rest (dI sl o.dst A.val) (fo S A.upd))\/Ra C o sl S tk λA=>FV C all tk K rest (dI sl o.dst A.val) (fo S A.upd)
    | some false=>FV C all tk K rest (dI sl o.dst .none) S
    | none=>False
def Gf (all:List Oper) (k:Nat) (A:Eff):List (Nat×Eff)->Prop
  | []=>True
  | (j,B)::L=>(Dis A B\/Dv all 4 j k=true)/\Gf all k A L
def opsL (C:Cfg) (all:List Oper) (tk:Nat) (K:(Nat->V)->Store->Prop):List Oper->Nat->List (Nat×Eff)->(Nat->V)->Store->Prop
  | [],_,_,sl,S=>K sl S
  | o::rest,k,L,sl,S=>match aQ all sl o with
    | some true=>opD C o sl S tk λA=>Gf all k A L/\opsL C all tk K rest (k+1) ((k,A)::L) (dI sl o.dst A.val) (fo S A.upd)
    | some false=>opsL C all tk K rest (k+1) L (dI sl o.dst .none) S
    | none=>False
def Qz (C:Cfg) (ops:Array Oper) (f:Bool) (σ:St) (K:St->Prop):Prop :=
  Cc C ops.toList=true /\
  bif f then (C.P.follows .mixedOrders=true/\Region.lexB .any ops=true/\opsL C ops.toList σ.tick (λsl S=>K ⟨sl,S,σ.tick+1⟩) ops.toList 0 [] σ.slots σ.store)
  else FV C ops.toList σ.tick (λsl S=>K ⟨sl,S,σ.tick+1⟩) ops.toList σ.slots σ.store
def condD (v:V) (x y:Prop):Prop:=∃t,v = .d (.bool t)/\(t=true->x)/\(t=false->y)
def seqQ (K:St->Prop) (Q:Exit->St->Prop):Exit->St->Prop
  | .normal,σ=>K σ
  | e,σ=>Q e σ
def Ky (id:Nat) (Q:Exit->St->Prop):Exit->St->Prop
  | .exit f,σ=>bif Nat.beq f id then Q .normal σ else Q (.exit f) σ
  | e,σ=>Q e σ
def wpD (C:Cfg):Code->(Exit->St->Prop)->St->Prop
  | .skip,Q,σ=>Q .normal σ
  | .seq a b,Q,σ=>wpD C a (seqQ (λσ=>∃f,Gst σ f/\wpD C b Q f) Q) σ
  | .cond c x y,Q,σ=>condD (ev σ.slots c) (∃f,Gst σ f/\wpD C x Q f) (∃f,Gst σ f/\wpD C y Q f)
  | .block id c,Q,σ=>wpD C c (Ky id Q) σ
  | .exit id,Q,σ=>Q (.exit id) σ
  | .ret,Q,σ=>Q .ret σ
  | .loop c,Q,σ=>∃(I:St->Prop) (m:St->Nat),(∃A,Gst σ A/\I A)/\∀f,I f->wpD C c (seqQ (λj=>∃o,Gst j o/\I o/\m o<m f) Q) f
  | .region _ ops h,Q,σ=>Qz C ops h σ (Q .normal)
  | _,_,_=>False
def Kq (C:Cfg) (E:Env) (G:Gh) (w:World) (a:Act) (σ:St):Prop:=Reg C E G w a σ.slots σ.store σ.tick (λ_=>False)
section
variable {C:Cfg} {E:Env}
theorem wF:∀{l:List Oper} (_:mU l=true) (i j:Nat) (o f:Oper) (d:Nat),l[i]? = some o->l[j]? = some f->o.dst=some d->f.dst=some d->i=j
  | [],_,i,j,o,f,d,h1,_,_,_=>by simp at h1
  | x::l,h,0,0,o,f,d,_,_,_,_=>rfl
  | x::l,h,0,j+1,o,f,d,h1,h2,B,F=>by
    simp only [List.getElem?_cons_zero,so_]at h1
    subst h1
    simp only [mU,B,Bool.and_eq_true]at h
    have A:=List.all_eq_true.1 h.1 f (List.mem_of_getElem? (by simpa using h2))
    simp only [F]at A
    have:Nat.beq d d=true:=Nat.beq_refl d
    rw [this]at A;cases A
  | x::l,h,i+1,0,o,f,d,h1,h2,B,F=>by
    simp only [List.getElem?_cons_zero,so_]at h2
    subst h2
    simp only [mU,F,Bool.and_eq_true]at h
    have A:=List.all_eq_true.1 h.1 o (List.mem_of_getElem? (by simpa using h1))
    simp only [B]at A
    have:Nat.beq d d=true:=Nat.beq_refl d
    rw [this]at A;cases A
  | x::l,h,i+1,j+1,o,f,d,h1,h2,B,F=>by
    simp only [mU,Bool.and_eq_true]at h
    rw [wF h.2 i j o f d (by simpa using h1) (by simpa using h2) B F]
theorem Bp {ops:Array Oper} (h:Cc C ops.toList=true) {j:Nat} {o:Oper} (ho:ops[j]? = some o):Bb C o=true:=by
  simp only [Cc,Bool.and_eq_true]at h
  exact List.all_eq_true.1 h.1 o (List.mem_of_getElem? (by simpa using ho))
theorem qp {o:Oper} (h:Bb C o=true) {d:Nat} (f:o.dst=some d):d<C.n/\d<100000:=by
  simp only [Bb,f,Bool.and_eq_true]at h
  exact⟨by simpa [Nat.blt_eq]using h.1,by simpa [Nat.blt_eq]using h.2⟩
def PO (pre:List Oper) (n:Nat):Prop:=∃o∈pre,o.dst=some (n % 100000)
theorem Gst.okR {U:Nat->Prop} {σ σ':St} (h:Gst σ σ'):∀{G:Gh} {w:World} {a:Act},Reg C E G w a σ.slots σ.store σ.tick U->∃G',Reg C E G' w a σ'.slots σ'.store σ'.tick U:=by
  induction h with
  | refl σ=>exact λhc=>⟨_,hc⟩
  | forget σ ks =>
    intro G w a hc
    have ht:∀i,RepV G w (a.tmps.getD i undef) (envS (ks.map λk=>(k,σ.slots k)) i):=λi=>by
      rcases MJ σ.slots ks i with e|e
      · rw [e];exact hc.tm i
      · rw [e];exact .any _
    exact⟨G,{ hc with tm:=ht }⟩
  | froz σ n =>
    intro G w a hc
    obtain ⟨G',i,e⟩:=rM [n] hc.inv
    exact⟨G',{ sz:=hc.sz,df:=hc.df,tm:=λj=>(hc.tm j).ext e,inv:=i }⟩
  | co σ k =>
    intro G w a hc
    have ht:∀i,RepV G w (a.tmps.getD i undef) (upd σ.slots k (Eng.co σ.store (σ.slots k)) i):=λi=>by
      simp only [upd]
      cases h:Nat.beq i k with
      | true=>rw [Nat.eq_of_beq_eq_true h];exact LG hc.inv (hc.tm k)
      | false=>exact hc.tm i
    exact⟨G,{ hc with tm:=ht }⟩
  | coB σ n sz cs h =>
    intro G w a hc
    refine⟨G,{ sz:=hc.sz,df:=hc.df,tm:=hc.tm,inv := { hc.inv with box:=λm bx f => ?_,one:=λn1 n2 b1 b2 b o s1 Z Y h1 h2 F h4 h5 => ?_ } }⟩
    · by_cases e:m=n
      · subst e
        simp only [supd,if_true,so_]at f
        subst f
        obtain ⟨b,o,A,J,I,f⟩:=hc.inv.box m _ h
        refine⟨b,o,A,J,?_,λ_=>f rfl⟩
        have B:Stands G w (.cells sz cs) b o A:=I
        have:Stands G w (.cells sz (cs.map (co1 σ.store))) b o A :=
          { sz:=B.sz,even:=trivial,room:=by have:=B.room;simp only [Box.all,List.length_map]at this ⊢;exact this
            cell:=λj hj=>by
              have M:j<cs.length:=by simpa [Box.all]using hj
              obtain ⟨u,h1,h2,F⟩:=B.cell j M
              refine⟨u,h1,h2,?_⟩
              simp only [Box.all,List.getElem_map]
              exact F4 hc.inv F
            free:=B.free,froz:=λf=>by simp [Box.mut]at f,cel:=B.cel }
        exact this
      · simp only [supd,if_neg e]at f
        exact hc.inv.box m bx f
    · have old:∀m bx,supd σ.store n (some (.cells sz (cs.map (co1 σ.store)))) m=some bx->∃bx',σ.store m=some bx'/\bx'.mut=bx.mut:=λm bx f=>by
        by_cases e:m=n
        · subst e
          simp only [supd,if_true,so_]at f
          subst f
          exact⟨_,h,rfl⟩
        · simp only [supd,if_neg e]at f
          exact⟨bx,f,rfl⟩
      obtain ⟨c1,R,W⟩:=old _ _ h1
      obtain ⟨c2,N,_⟩:=old _ _ h2
      exact hc.inv.one n1 n2 c1 c2 b o s1 Z Y R N (W.trans F) h4 h5
  | shr σ n sz m xs h =>
    intro G w a hc
    refine⟨G,{ sz:=hc.sz,df:=hc.df,tm:=hc.tm,inv := { hc.inv with box:=λT bx f => ?_,one:=λn1 n2 b1 b2 b o s1 Z Y h1 h2 F h4 h5 => ?_ } }⟩
    · by_cases e:T=n
      · subst e
        simp only [supd,if_true,so_]at f
        subst f
        obtain ⟨b,o,A,J,I,f⟩:=hc.inv.box T _ h
        refine⟨b,o,A,J,?_,λ_=>f rfl⟩
        have B:Stands G w (.vec sz xs) b o A:=I
        have hal:(Box.vec sz xs).all=(Box.vec sz (xs.take m)).all++(Box.vec sz (xs.drop m)).all:=by
          simp only [Box.all]
          rw [<- List.flatten_append,<- List.map_append,List.take_append_drop]
        have L:(Box.vec sz (xs.take m)).all.length<=(Box.vec sz xs).all.length:=by rw [hal,List.length_append];omega
        have:Stands G w (.vec sz (xs.take m)) b o A :=
          { sz:=B.sz,even:=λx hx=>B.even x (List.mem_of_mem_take hx),room:=Nat.le_trans (Nat.add_le_add_left L o) B.room
            cell:=λj hj=>by
              obtain ⟨u,h1,h2,F⟩:=B.cell j (Nat.lt_of_lt_of_le hj L)
              refine⟨u,h1,h2,?_⟩
              have e:(Box.vec sz xs).all[j]'(Nat.lt_of_lt_of_le hj L)=(Box.vec sz (xs.take m)).all[j]:=by
                have e2:(Box.vec sz xs).all[j]? = (Box.vec sz (xs.take m)).all[j]? := by rw [hal,List.getElem?_append_left hj]
                rw [List.getElem?_eq_getElem (Nat.lt_of_lt_of_le hj L),List.getElem?_eq_getElem hj,so_]at e2
                exact e2
              rw [<- e];exact F
            free:=B.free,froz:=λf=>by simp [Box.mut]at f }
        exact this
      · simp only [supd,if_neg e]at f
        exact hc.inv.box T bx f
    · have old:∀T bx,supd σ.store n (some (.vec sz (xs.take m))) T=some bx->∃bx',σ.store T=some bx'/\bx'.mut=bx.mut:=λT bx f=>by
        by_cases e:T=n
        · subst e
          simp only [supd,if_true,so_]at f
          subst f
          exact⟨_,h,rfl⟩
        · simp only [supd,if_neg e]at f
          exact⟨bx,f,rfl⟩
      obtain ⟨c1,R,W⟩:=old _ _ h1
      obtain ⟨c2,N,_⟩:=old _ _ h2
      exact hc.inv.one n1 n2 c1 c2 b o s1 Z Y R N (W.trans F) h4 h5
  | coM σ n sz cs O h hl hcs =>
    intro G w a hc
    refine⟨G,{ sz:=hc.sz,df:=hc.df,tm:=hc.tm,inv := { hc.inv with box:=λm bx f => ?_,one:=λn1 n2 b1 b2 b o s1 Z Y h1 h2 F h4 h5 => ?_ } }⟩
    · by_cases e:m=n
      · subst e
        simp only [supd,if_true,so_]at f
        subst f
        obtain ⟨b,o,A,J,I,f⟩:=hc.inv.box m _ h
        refine⟨b,o,A,J,?_,λ_=>f rfl⟩
        have B:Stands G w (.cells sz cs) b o A:=I
        have:Stands G w (.cells sz O) b o A :=
          { sz:=B.sz,even:=trivial,room:=by have:=B.room;simp only [Box.all]at this ⊢;omega
            cell:=λj hj=>by
              have hj1:j<O.length:=hj
              have M:j<cs.length:=by omega
              obtain ⟨u,h1,h2,F⟩:=B.cell j M
              refine⟨u,h1,h2,?_⟩
              show RepV G w u O[j]
              rcases hcs j hj1 M with e|e
              · rw [e];exact F
              · rw [e];exact F4 hc.inv F
            free:=B.free,froz:=λf=>by simp [Box.mut]at f,cel:=B.cel }
        exact this
      · simp only [supd,if_neg e]at f
        exact hc.inv.box m bx f
    · have old:∀m bx,supd σ.store n (some (.cells sz O)) m=some bx->∃bx',σ.store m=some bx'/\bx'.mut=bx.mut:=λm bx f=>by
        by_cases e:m=n
        · subst e
          simp only [supd,if_true,so_]at f
          subst f
          exact⟨_,h,rfl⟩
        · simp only [supd,if_neg e]at f
          exact⟨bx,f,rfl⟩
      obtain ⟨c1,R,W⟩:=old _ _ h1
      obtain ⟨c2,N,_⟩:=old _ _ h2
      exact hc.inv.one n1 n2 c1 c2 b o s1 Z Y R N (W.trans F) h4 h5
  | pm σ n h =>
    intro G w a hc
    refine⟨G,{ sz:=hc.sz,df:=hc.df,tm:=hc.tm,inv := { hc.inv with box:=λm bx f => ?_,one:=λn1 n2 b1 b2 b o s1 Z Y h1 h2 F h4 h5 => ?_ } }⟩
    · by_cases e:m=n
      · subst e
        simp only [supd,if_true,so_]at f
        subst f
        obtain ⟨b,o,A,J,I,f⟩:=hc.inv.box m _ h
        refine⟨b,o,A,J,?_,λ_=>f rfl⟩
        obtain ⟨k0,arr,clock,R,N,k3⟩:=I
        exact⟨k0,arr,clock,R,N,λi h1 h2=>absurd h2 (Nat.not_lt_zero i)⟩
      · simp only [supd,if_neg e]at f
        exact hc.inv.box m bx f
    · have old:∀m bx,supd σ.store n (some (.pmap [])) m=some bx->∃bx',σ.store m=some bx'/\bx'.mut=bx.mut:=λm bx f=>by
        by_cases e:m=n
        · subst e
          simp only [supd,if_true,so_]at f
          subst f
          exact⟨_,h,rfl⟩
        · simp only [supd,if_neg e]at f
          exact⟨bx,f,rfl⟩
      obtain ⟨c1,R,W⟩:=old _ _ h1
      obtain ⟨c2,N,_⟩:=old _ _ h2
      exact hc.inv.one n1 n2 c1 c2 b o s1 Z Y R N (W.trans F) h4 h5
  | trans _ _ h1 h2 =>
    intro G w a hc
    obtain ⟨G1,F⟩:=h1 hc
    exact h2 F
theorem zi {ops:Array Oper} {tk:Nat} {K:(Nat->V)->Store->Prop} {Q':Exit->Act->World->Prop} (f:Cc C ops.toList=true)
    (Z:∀a w G sl S,K sl S->Reg C E G w a sl S tk (PO ops.toList)->Q' .normal a w) :
    ∀(rest pre:List Oper) (sl:Nat->V) (S:Store) (a:Act) (w:World) (G:Gh),ops.toList=pre++rest->FV C ops.toList tk K rest sl S->Reg C E G w a sl S tk (PO pre) ->
      wpList C.P ops Q' rest a w
  | [],pre,sl,S,a,w,G,N,h,F=>by
    rw [List.append_nil]at N
    exact Z a w G sl S h (N ▸ F)
  | o::rest,pre,sl0,S0,a,w,G0,N,h,F=>by
    simp only [FV]at h
    obtain ⟨sl,S,hg,h⟩:=h
    obtain ⟨G,F⟩:=hg.okR F
    dsimp only at F
    have W:ops[pre.length]? = some o:=by rw [<- Array.getElem?_toList,N];simp
    have I:=Bp f W
    have Y:∀b,aQ ops.toList sl o=some b->Region.wanted o (yielded ops a.tmps)=b:=λb hb =>
      JU F hb (λj J d M hd'=>(qp (Bp f M) hd').1)
    have L:ops.toList=(pre++[o])++rest:=by rw [N];simp
    unfold wpList
    split at h
    · rename_i hw
      rw [if_pos (Y true hw)]
      left
      have R:∀(A:Eff) (u:Value) (w':World) (G':Gh),FV C ops.toList tk K rest (dI sl o.dst A.val) (fo S A.upd)->Reg C E G' w' (a.put o.dst u) (dI sl o.dst A.val) (fo S A.upd) tk (λn=>PO pre n\/o.dst=some (n % 100000))->wpList C.P ops Q' rest (a.put o.dst u) w' :=
        λA u w' G' hA B=>zi f Z rest (pre++[o]) _ _ _ w' G' L hA { B with inv:=B.inv.mono (λn O=>by
          rcases O with⟨J,h1,h2⟩|O
          · exact⟨J,by simp [h1],h2⟩
          · exact⟨o,by simp,O⟩) }
      have T:∀d,o.dst=some d->∀j,¬PO pre (d+100000*j):=λd hd j hu=>by
        obtain ⟨J,M,he⟩:=hu
        obtain ⟨i,hi,rfl⟩:=List.getElem_of_mem M
        have hlt:=(qp I hd).2
        have e:(d+100000*j) % 100000=d:=(Nat.add_mul_mod_self_left d 100000 j).trans (Nat.mod_eq_of_lt hlt)
        rw [e]at he
        simp only [Cc,Bool.and_eq_true]at f
        have:=wF f.2 i pre.length pre[i] o d (by rw [N,List.getElem?_append_left hi];simp) (by rw [N];simp) he hd
        omega
      rcases h with h|h
      case inr=>exact nil_ok F I T h R
      refine op_ok F I T h (λA u w' G' hA B=>zi f Z rest (pre++[o]) _ _ _ w' G' L hA ?_)
      exact { B with inv:=B.inv.mono (λn O=>by
          rcases O with⟨J,h1,h2⟩|O
          · exact⟨J,by simp [h1],h2⟩
          · exact⟨o,by simp,O⟩) }
    · rename_i hw
      rw [if_neg (by rw [Y false hw];simp)]
      refine zi f Z rest (pre++[o]) _ _ _ w G L h ?_
      have:=F.put (Ext.refl G w) F.inv I (RepV.none)
      exact { this with inv:=this.inv.mono (λn ⟨J,h1,h2⟩=>⟨J,by simp [h1],h2⟩) }
    · exact h.elim
def Uv (ops:Array Oper) (f:Array Bool) (n:Nat):Prop:=∃i o,ops[i]? = some o/\f.getD i false=true/\o.dst=some (n % 100000)
theorem Cn {ops:Array Oper} {tk:Nat} {K:(Nat->V)->Store->Prop} {Q':Exit->Act->World->Prop} (B:Cc C ops.toList=true)
    (Y:∀a w G sl S U,K sl S->Reg C E G w a sl S tk U->Q' .normal a w) :
    ∀(fuel:Nat) (f:Array Bool) (sl:Nat->V) (S:Store) (L:Log) (a:Act) (w:World) (G:Gh),QT C ops tk K fuel f sl S L->f.size=ops.size ->
      Reg C E G w a sl S tk (Uv ops f)->wpAny C.P .any ops Q' fuel f a w
  | 0,f,sl,S,L,a,w,G,h,_,J=>⟨h.1,Y a w G sl S _ h.2 J⟩
  | fuel+1,f,sl,S,L,a,w,G,h,hsz,J=>by
    refine⟨λh0=>Y a w G sl S _ (h.1 h0) J,λi hi => ?_⟩
    have M:=h.2 i hi
    obtain ⟨hun,o,ho,_⟩:=mem_ready.1 hi
    have O:=Ie hun
    have I:=Bp B ho
    have T:i<f.size:=by rw [hsz];exact (Array.getElem?_eq_some_iff.1 ho).1
    have W:∀b,aQ ops.toList sl o=some b->Region.wanted o (yielded ops a.tmps)=b:=λb hb =>
      JU J hb (λj Z d ho' hd'=>(qp (Bp B ho') hd').1)
    have F:∀n,Uv ops f n->Uv ops (f.setIfInBounds i true) n:=λn ⟨k,Z,h1,h2,h3⟩=>⟨k,Z,h1,getD_set_true h2,h3⟩
    unfold qD at M
    unfold wpOp
    simp only [ho]at M ⊢
    split at M
    · rename_i hw
      rw [if_pos (W true hw)]
      left
      refine op_ok J I (λd hd j hu => ?_) M (λA u w' G' hA N=>Cn B Y fuel _ _ _ _ _ w' G' hA.2 (by simp [hsz]) ?_)
      · obtain ⟨k,Z,h1,h2,h3⟩:=hu
        have hlt:=(qp I hd).2
        have e:(d+100000*j) % 100000=d:=(Nat.add_mul_mod_self_left d 100000 j).trans (Nat.mod_eq_of_lt hlt)
        rw [e]at h3
        simp only [Cc,Bool.and_eq_true]at B
        have:=wF B.2 k i Z o d (by simpa using h1) (by simpa using ho) h3 hd
        subst this
        rw [O]at h2;cases h2
      · exact { N with inv:=N.inv.mono (λn R=>by
          rcases R with R|R
          · exact F n R
          · exact⟨i,o,ho,by simp [Array.getD_eq_getD_getElem?,T],R⟩) }
    · rename_i hw
      rw [if_neg (by rw [W false hw];simp)]
      refine Cn B Y fuel _ _ _ _ _ w G M (by simp [hsz]) ?_
      have:=J.put (Ext.refl G w) J.inv I (RepV.none)
      exact { this with inv:=this.inv.mono F }
    · exact M.elim
theorem zm {ops:Array Oper} {tk:Nat} {K:(Nat->V)->Store->Prop}:∀(rest:List Oper) (k:Nat) (L:List (Nat×Eff)) (F:Log) (sl:Nat->V) (S:Store),
    (∀i,rest[i]? = ops[k+i]?)->k+rest.length=ops.size->(∀j B,F j=some B->(j,B)∈L)->opsL C ops.toList tk K rest k L sl S->Ur C ops tk K rest.length k sl S F
  | [],k,L,F,sl,S,_,_,_,h=>h
  | o::rest,k,L,F,sl,S,hi,W,N,h=>by
    have O:ops[k]? = some o:=by simpa using (hi 0).symm
    have I:∀i,rest[i]? = ops[k+1+i]? := λi=>by
      have:=hi (i+1)
      simpa [Nat.add_assoc,Nat.add_comm 1 i]using this
    simp only [List.length_cons]at W ⊢
    simp only [opsL]at h
    show qD C ops tk k (Ur C ops tk K rest.length (k+1)) sl S F
    unfold qD
    simp only [O]
    split at h
    · rename_i M
      simp only [M]
      refine yA (λA ⟨hc,R⟩=>⟨λj B hj => ?_,zm rest (k+1) ((k,A)::L) _ _ _ I (by omega) (λj B hj => ?_) R⟩) h
      · have key:∀(L:List (Nat×Eff)),Gf ops.toList k A L->(j,B)∈L->Dis A B\/Dv ops.toList 4 j k=true:=by
          intro L
          induction L with
          | nil=>intro _ f;cases f
          | cons p L T =>
            intro hc f
            obtain ⟨Y,Z⟩:=p
            rcases List.mem_cons.1 f with f|f
            · simp only [Prod.mk.injEq]at f
              obtain ⟨rfl,rfl⟩:=f
              exact hc.1
            · exact T hc.2 f
        exact key L hc (N j B hj)
      · unfold uM at hj
        split at hj
        · rename_i J
          simp only [so_]at hj
          subst hj J
          simp
        · exact List.mem_cons_of_mem _ (N j B hj)
    · rename_i M
      simp only [M]
      exact zm rest (k+1) L F _ _ I (by omega) N h
    · exact h.elim
theorem Reg.next {G:Gh} {w:World} {a:Act} {sl:Nat->V} {S:Store} {tk:Nat} {U:Nat->Prop} (h:Reg C E G w a sl S tk U):Reg C E G w a sl S (tk+1) (λ_=>False) :=
  { h with inv := { h.inv with tick:=λn x f => .inl (by rcases h.inv.tick n x f with h1 | ⟨h1,_⟩ <;> omega) } }
theorem Reg.drew {G:Gh} {w:World} {a:Act} {sl:Nat->V} {S:Store} {tk:Nat} {U:Nat->Prop} (h:Reg C E G w a sl S tk U):Reg C E G w.drew a sl S tk U :=
  { h with tm:=λi=>(h.tm i).ext h.inv.drew.2,inv:=h.inv.drew.1 }
theorem Jn {id:Nat} {ops:Array Oper} {f:Bool} {σ:St} {K:St->Prop} {Q':Exit->Act->World->Prop} {G:Gh} {w:World} {a:Act} (hc:Kq C E G w a σ)
    (M:∀a w G N,K N->Kq C E G w a N->Q' .normal a w) (h:Qz C ops f σ K):(Code.region id ops f).wp C.P Q' a w:=by
  obtain ⟨o,h⟩:=h
  cases f with
  | false =>
    simp only [cond_false]at h
    refine wp_region_list (zi (E:=E) o (λa w G sl S L J=>M a w G ⟨sl,S,σ.tick+1⟩ L J.next) ops.toList [] σ.slots σ.store a w G rfl h ?_)
    exact { hc with inv:=hc.inv.mono (λ_ I=>I.elim) }
  | true =>
    simp only [cond_true]at h
    obtain ⟨R,O,hl⟩:=h
    simp only [Region.lexB,Bool.and_eq_true]at O
    refine wp_region_any R ?_
    have h1:=zm (ops:=ops) ops.toList 0 [] (λ_=>none) σ.slots σ.store (λi=>by simp) (by simp) (λj B hj=>by cases hj) hl
    have h2:=IA (C:=C) (tk:=σ.tick) ops.toList.length 0 (Array.replicate ops.size false) σ.slots σ.store (λ_=>none) (by simp) (by simpa using O.2)
      (λk ok _ A=>by
        exfalso
        rcases Nat.lt_or_ge k ops.size with F|F
        · simp [Array.getD_eq_getD_getElem?,F]at A
        · simp [Array.getD_eq_getD_getElem?,F]at A) (λ_ _=>rfl) h1
    have T:=Cn (E:=E) (Q':=Q') o (λa w G sl S U L J=>M a w G ⟨sl,S,σ.tick+1⟩ L J.next) _ _ _ _ _ a w.drew G h2 (by simp)
      (Reg.drew { hc with inv:=hc.inv.mono (λ_ I=>I.elim) })
    simpa using T
theorem exists_least {p:Nat->Prop} (h:∃n,p n):∃n,p n/\∀m,p m->n<=m:=by
  obtain ⟨n,j⟩:=h
  induction n using Nat.strongRecOn with
  | _ n o =>
    by_cases hx:∃m,m<n/\p m
    · obtain ⟨m,h1,h2⟩:=hx
      exact o m h1 h2
    · exact⟨n,j,λm f=>Nat.le_of_not_lt (λh1=>hx ⟨m,h1,f⟩)⟩
open Classical in
noncomputable def leastOf (p:Nat->Prop):Nat:=if h:∃n,p n then (exists_least h).choose else 0
theorem leastOf_spec {p:Nat->Prop} (h:∃n,p n):p (leastOf p)/\∀m,p m->leastOf p<=m:=by
  unfold leastOf
  rw [dif_pos h]
  exact (exists_least h).choose_spec
def Fits (C:Cfg) (E:Env) (I:St->Prop) (m:St->Nat) (a:Act) (w:World) (n:Nat):Prop:=∃G σ,Kq C E G w a σ/\I σ/\m σ=n
theorem Gst.ok {σ f:St} (h:Gst σ f):∀{G:Gh} {w:World} {a:Act},Kq C E G w a σ->∃G',Kq C E G' w a f:=λhc=>Gst.okR h hc
theorem sP:∀(c:Code) (Q:Exit->St->Prop) (σ:St) (Q':Exit->Act->World->Prop) (a:Act) (w:World) (G:Gh),Kq C E G w a σ ->
    (∀e a w G A,Q e A->Kq C E G w a A->Q' e a w)->wpD C c Q σ->c.wp C.P Q' a w
  | .skip,Q,σ,Q',a,w,G,hc,j,h=>wp_skip (j _ a w G σ h hc)
  | .ret,Q,σ,Q',a,w,G,hc,j,h=>wp_ret (j _ a w G σ h hc)
  | .exit id,Q,σ,Q',a,w,G,hc,j,h=>wp_exit (j _ a w G σ h hc)
  | .seq x y,Q,σ,Q',a,w,G,hc,j,h=>by
    refine wp_seq (sP x _ σ _ a w G hc (λe a w G A o f => ?_) h)
    cases e with
    | normal =>
      obtain ⟨O,M,o⟩:=o
      obtain ⟨G2,B⟩:=M.ok f
      exact sP y Q O Q' a w G2 B j o
    | exit id=>exact j _ a w G A o f
    | goto l=>exact j _ a w G A o f
    | ret=>exact j _ a w G A o f
    | panic ch=>exact j _ a w G A o f
    | outgrown=>exact j _ a w G A o f
  | .cond c x y,Q,σ,Q',a,w,G,hc,j,h=>by
    obtain ⟨t,ht,h1,h2⟩:=h
    have hv:=Reg.ev hc c
    rw [ht]at hv
    have N:=hv.d_inv.bool_inv
    cases t with
    | true =>
      obtain ⟨O,M,o⟩:=h1 rfl
      obtain ⟨G2,B⟩:=M.ok hc
      exact wp_cond_true N (sP x Q O Q' a w G2 B j o)
    | false =>
      obtain ⟨O,M,o⟩:=h2 rfl
      obtain ⟨G2,B⟩:=M.ok hc
      exact wp_cond_false N (sP y Q O Q' a w G2 B j o)
  | .block id x,Q,σ,Q',a,w,G,hc,j,h=>by
    refine wp_block (sP x _ σ _ a w G hc (λe a w G A o f => ?_) h)
    cases e with
    | exit Z =>
      simp only [Ky]at o
      simp only [Exit.inBlock]
      cases hb:Nat.beq Z id with
      | true =>
        rw [hb]at o
        rw [if_pos (Nat.eq_of_beq_eq_true hb)]
        exact j _ a w G A o f
      | false =>
        rw [hb]at o
        rw [if_neg (λe=>by rw [e,Nat.beq_refl]at hb;cases hb)]
        exact j _ a w G A o f
    | normal=>exact j _ a w G A o f
    | goto l=>exact j _ a w G A o f
    | ret=>exact j _ a w G A o f
    | panic ch=>exact j _ a w G A o f
    | outgrown=>exact j _ a w G A o f
  | .loop x,Q,σ,Q',a,w,G,hc,j,h=>by
    obtain ⟨I,m,⟨σ0,T,h0⟩,F⟩:=h
    obtain ⟨G0,hc0⟩:=T.ok hc
    refine wp_loop (λa w=>∃n,Fits C E I m a w n) (λa w=>leastOf (Fits C E I m a w)) ⟨m σ0,G0,σ0,hc0,h0,rfl⟩ (λa w hI => ?_)
    obtain ⟨⟨G,σ,hc,W,hm⟩,_⟩:=leastOf_spec hI
    refine sP x _ σ _ a w G hc (λe J w' G' A o f => ?_) (F σ W)
    cases e with
    | normal =>
      obtain ⟨R,Y,h1,h2⟩:=o
      obtain ⟨G3,hc3⟩:=Y.ok f
      have L:∃n,Fits C E I m J w' n:=⟨m R,G3,R,hc3,h1,rfl⟩
      refine⟨L,?_⟩
      have:=(leastOf_spec L).2 (m R) ⟨G3,R,hc3,h1,rfl⟩
      omega
    | exit id=>exact j _ J w' G' A o f
    | goto l=>exact j _ J w' G' A o f
    | ret=>exact j _ J w' G' A o f
    | panic ch=>exact j _ J w' G' A o f
    | outgrown=>exact j _ J w' G' A o f
  | .region id ops draw,Q,σ,Q',a,w,G,hc,j,h=>Jn hc (λa w G A hk f=>j _ a w G A hk f) h
  | .rangeFunc ..,_,_,_,_,_,_,_,_,h=>h.elim
  | .scope _,_,_,_,_,_,_,_,_,h=>h.elim
  | .label _,_,_,_,_,_,_,_,_,h=>h.elim
  | .goto _,_,_,_,_,_,_,_,_,h=>h.elim
  | .refuse _,_,_,_,_,_,_,_,_,h=>h.elim
end
end Go.Eng

/-
  THE ENGINE: a function's contract out of its body.
-/
namespace Go.Eng
set_option linter.unusedSectionVars false
variable [DM]
def IY (C:Cfg) (σ:St):List ResultVar->Option (List V)
 | []=>some []
 | .tmp t::f=>(IY C σ f).map (σ.slots t :: ·)
 | .cell a t::f=>match vN C.P t σ.store (σ.slots a),IY C σ f with
  | some A,some vs=>some (A.val::vs)
  | _,_=>none
def Jp (vs:List V):V:=match vs with
 | [v]=>v
 | vs => .tup vs
def P6 (k:Nat) (r:V) (Sout:List (Option Box)) (vs:List V) (S:Store):Prop :=
 ∃(f:List V) (ν:List Nm),vs.length=f.length/\(∀(i:Nat) (h1:i<vs.length) (h2:i<f.length),f[i]=vs[i]\/f[i]=co S vs[i])/\Jp f=ren ν r/\ν.length=Sout.length/\ν.Nodup/\(∀i,i<k->ν[i]? = some (aA i)) /\
  ∀(i:Nat) (bx:Box),Sout[i]? = some (some bx)->∃n,ν[i]? = some n/\S n=some (bx.ren ν)
def retQ (C:Cfg) (f:List ResultVar) (fin:List V->Store->Prop):Exit->St->Prop
 | .normal,σ | .ret,σ=>∃vs,IY C σ f=some vs/\fin vs σ.store
 | _,_=>False
def PZ (args:List V):Nat->V:=λi=>args.getD i .none
theorem LD {C:Cfg} {E:Env} {G:Gh} {w:World} {a:Act} {σ:St} (hc:Kq C E G w a σ):∀(j:List ResultVar) (vs:List V),IY C σ j=some vs ->
  ∃us:List Value,xm G w us vs/\(j.mapM (fun | .tmp t=>pure (a.tmps.getD t undef) | .cell b t=>do loadVar t (<- asAddr (a.tmps.getD b undef)):ResultVar->Sem Value)).run C.P w = .ok us w
 | [],vs,h=>by
  simp only [IY,so_]at h
  subst h
  exact⟨[],⟨rfl,λi h1=>absurd h1 (Nat.not_lt_zero i)⟩,rfl⟩
 | .tmp t::j,vs,h=>by
  simp only [IY,Option.map_eq_some_iff]at h
  obtain ⟨f,h1,rfl⟩:=h
  obtain ⟨us,h2,B⟩:=LD hc j f h1
  refine⟨a.tmps.getD t undef::us,⟨by simp [h2.1],λi F M => ?_⟩,by simp only [List.mapM_cons,Sem.run_bind,Sem.run_pure,Result.andThen_ok,B]⟩
  cases i with
  | zero=>exact hc.tm t
  | succ i=>exact h2.2 i _ _
 | .cell b t::j,vs,h=>by
  simp only [IY]at h
  split at h
  ·rename_i A f N h1
   simp only [so_]at h
   subst h
   obtain ⟨us,h2,B⟩:=LD hc j f h1
   obtain ⟨L,I,O,F,J,_⟩:=Jr hc.inv (hc.tm b) N
   refine⟨I::us,⟨by simp [h2.1],λi F M => ?_⟩,?_⟩
   ·cases i with
    | zero=>exact J
    | succ i=>exact h2.2 i _ _
   ·have o:(asAddr (a.tmps.getD b undef)).run C.P w = .ok L w:=by rw [O];rfl
    simp only [List.mapM_cons,Sem.run_bind,o,Sem.run_pure,Result.andThen_ok,F,B]
  ·cases h
theorem FnM.of_wpD' {P:Program} {f:FuncId} {fn:Func} {body:Code} {C:Cfg} (hf:P.funcs[f]? = some fn) (hb:fn.body=some body) (hP:C.P=P) (hn:C.n=fn.ntmps)
  {args:List V} {Sin:List Box} {r:V} {Sout:List (Option Box)} (hl:args.length<=fn.ntmps)
  (h:∃O,Gst ⟨PZ args,kS Sin,1⟩ O/\wpD C body (retQ C fn.results.toList (P6 Sin.length r Sout)) O):FnM P f args Sin r Sout:=by
 subst hP
 intro G w j L o
 refine calls_of_wp hf hb ?_
 have hc:Kq C ⟨G,w,Ii G Sin⟩ G w { tmps:=j.toArray++Array.replicate (fn.ntmps-j.toArray.size) undef,defers:=[] } ⟨PZ args,kS Sin,1⟩:=by
  refine⟨?_,rfl,λi => ?_,L⟩
  ·have:=o.1
   simp;omega
  ·have hl:=o.1
   show RepV G w _ (args.getD i .none)
   by_cases hi:i<args.length
   ·have h1:=o.2 i (by omega) hi
    simp only [Array.getD_eq_getD_getElem?,List.getD_eq_getElem?_getD]
    rw [List.getElem?_eq_getElem hi,Array.getElem?_append_left (by simp;omega)]
    simp [show i<j.length by omega]
    exact h1
   ·have e2:args.getD i .none = .none:=by simp [List.getD_eq_getElem?_getD,List.getElem?_eq_none (Nat.le_of_not_lt hi)]
    have e1:(j.toArray++Array.replicate (fn.ntmps-j.toArray.size) undef).getD i undef=undef:=by
     simp only [Array.getD_eq_getD_getElem?]
     rw [Array.getElem?_append_right (by simp;omega)]
     simp only [Array.getElem?_replicate]
     split <;> rfl
    rw [e1,e2]
    exact .none
 obtain ⟨σ0,T,h⟩:=h
 obtain ⟨G0,W⟩:=T.ok hc
 refine sP body _ _ _ _ _ _ W (λe a w' G' O J B => ?_) h
 have fin:retQ C fn.results.toList (P6 Sin.length r Sout) .ret O->a.defers=[]/\∃v,(results fn a.tmps).run C.P w' = .ok v w'/\∃v' G' S' Y U' ν,Ending.returned v = .returned v'/\Inv ⟨G,w,Ii G Sin⟩ G' w' S' Y U'/\RepV G' w' v' (ren ν r) /\
   ν.length=Sout.length/\ν.Nodup/\(∀i,i<Sin.length->ν[i]? = some (aA i))/\∀(i:Nat) (bx:Box),Sout[i]? = some (some bx)->∃n,ν[i]? = some n/\S' n=some (bx.ren ν):=by
  rintro ⟨vs0,h1,vs,ν,f0,N,f1,f2,f3,f4,f5⟩
  obtain ⟨us,I,u2⟩:=LD B _ vs0 h1
  have A:xm G' w' us vs:=⟨I.1.trans f0,λi q1 q2=>by
   rcases N i (by omega) q2 with e|e
   ·rw [e];exact I.2 i q1 _
   ·rw [e];exact LG B.inv (I.2 i q1 _)⟩
  have M:∃v,(results fn a.tmps).run C.P w' = .ok v w'/\RepV G' w' v (Jp vs):=by
   have Z:(fn.results.mapM (fun | .tmp t=>pure (a.tmps.getD t undef) | .cell b t=>do loadVar t (<- asAddr (a.tmps.getD b undef)):ResultVar->Sem Value)).run C.P w' = .ok us.toArray w':=by
    rw [Array.mapM_eq_mapM_toList]
    simp only [Sem.run_map,u2,Result.andThen_ok]
   have F:(results fn a.tmps).run C.P w' = .ok (if h:us.toArray.size=1 then us.toArray[0]else .tuple us.toArray) w':=by
    unfold results
    simp only [Sem.run_bind,Sem.run_pure]
    exact (congrArg (λx=>Result.andThen x (λ(a:Array Value) w'=>Result.ok (if h:a.size=1 then a[0]else Value.tuple a) w')) Z).trans rfl
   refine⟨_,F,?_⟩
   have R:=A.1
   clear f1 N f0 u2 Z F
   match vs,us,A,R with
   | [v],[u],A,_=>exact A.2 0 (by simp) (by simp)
   | [],[],A,_=>exact .tup [] [] A.1 A.2
   | v1::v2::vs,x1::x2::us,A,_ =>
    rw [dif_neg (by simp)]
    exact .tup _ _ A.1 A.2
  obtain ⟨v,hv,rv⟩:=M
  refine⟨B.df,v,hv,v,G',_,_,_,ν,rfl,B.inv,?_,f2,f3,f4,f5⟩
  rw [<- f1]
  exact rv
 cases e with
 | normal=>exact fin J
 | ret=>exact fin J
 | exit id=>exact J.elim
 | goto l=>exact J.elim
 | panic ch=>exact J.elim
 | outgrown=>exact J.elim
end Go.Eng

/-
  THE ENGINE: a body over a list of the boxes that are known ('wH'), ticks hidden; the rules for control, regions and loops.
-/
namespace Go.Eng
set_option linter.unusedSectionVars false
variable [DM]
set_option linter.unusedVariables false
abbrev Hp:=List (Nm×Option Box)
structure Ag (H:Hp) (S:Store) (t:Nat):Prop where
 pos:0<t
 nd:(H.map (·.1)).Nodup
 at_:∀p∈H,p.1.2<t/\∀b,p.2=some b->S p.1=some b
structure AgR (H:Hp) (S:Store) (t:Nat) (rest:List Oper):Prop where
 pos:0<t
 nd:(H.map (·.1)).Nodup
 at_:∀p∈H,(p.1.2<t\/p.1.2=t/\∀o∈rest,o.dst≠some (p.1.1 % 100000))/\∀b,p.2=some b->S p.1=some b
def uT (C:Cfg) (rest:List Oper):Prop:=mU rest=true/\∀o∈rest,Bb C o=true
abbrev QH:=Exit->(Nat->V)->Hp->Prop
def endR (tk:Nat) (K:(Nat->V)->Hp->Prop) (sl:Nat->V) (S:Store):Prop:=∃f,AgR f S tk []/\K sl f
abbrev Fp:=Nat×List Nm×Bool
def LogOK (Γ:List Fp) (L:List (Nat×Eff)):Prop:=∀p∈L,(p.2.upd=[]/\p.2.req=[])\/∃e∈Γ,e.1=p.1/\(∀x∈p.2.req,x.1∈e.2.1)/\(∀x∈p.2.upd,x.1∈e.2.1)/\(e.2.2=false->p.2.upd=[])
def R4 (all:List Oper) (k:Nat) (T:List Nm) (w:Bool):List Fp->Prop
 | []=>True
 | e::Γ=>((w=false/\e.2.2=false)\/(∀n∈T,n∉e.2.1)\/Dv all 4 e.1 k=true)/\R4 all k T w Γ
abbrev Qm:=Option (List Fp)
def okQ (q:Qm) (all:List Oper) (k:Nat) (T:List Nm) (w:Bool):Prop:=match q with
 | none=>True
 | some Γ=>R4 all k T w Γ
theorem il {b:Prop}:(none:Qm)=none\/b := .inl rfl
theorem ft {R:Store->Nat->Prop} {all:List Oper} {k:Nat} {T:List Nm} {w:Bool}:∀S tk,R S tk->okQ none all k T w:=λ_ _ _=>trivial
def pO (q:Qm) (k:Nat) (T:List Nm) (w:Bool):Qm:=q.map (λΓ=>Γ++[(k,T,w)])
def LJ (tk:Nat) (rest:List Oper) (m:Nm):Prop:=m.2<tk\/m.2=tk/\∀o∈rest,o.dst≠some (m.1 % 100000)
theorem LJ.tail {tk:Nat} {o:Oper} {rest:List Oper} {m:Nm} (h:LJ tk (o::rest) m):LJ tk rest m:=h.imp id (λh=>⟨h.1,λf ho=>h.2 f (List.mem_cons_of_mem _ ho)⟩)
def Uy (tk:Nat) (rest:List Oper) (Γ:List Fp):Prop:=∀e∈Γ,∀m∈e.2.1,LJ tk rest m
theorem Uy.tail {tk:Nat} {o:Oper} {rest:List Oper} {Γ:List Fp} (h:Uy tk (o::rest) Γ):Uy tk rest Γ:=λe he m f=>(h e he m f).tail
def oldQ (q:Qm) (tk:Nat) (rest:List Oper):Prop:=match q with
 | none=>True
 | some Γ=>Uy tk rest Γ
def aZ (q:Qm) (C:Cfg) (all:List Oper) (K:(Nat->V)->Hp->Prop) (rest:List Oper) (sl:Nat->V) (H:Hp):Prop :=
 ∀S tk,uT C rest->AgR H S tk rest ->
  match q with
  | none=>FV C all tk (endR tk K) rest sl S
  | some Γ=>∀k L,all.length=k+rest.length->LogOK Γ L->Uy tk rest Γ->opsL C all tk (endR tk K) rest k L sl S
def Mi (Q:QH):Exit->St->Prop:=λe σ=>∃f,Ag f σ.store σ.tick/\Q e σ.slots f
def tC (C:Cfg):Code->Bool
 | .seq a b=>tC C a&&tC C b
 | .cond _ x y=>tC C x&&tC C y
 | .block _ c=>tC C c
 | .loop c=>tC C c
 | .region _ ops f=>Cc C ops.toList&&(!f||(C.P.follows .mixedOrders&&Region.lexB .any ops))
 | _=>true
def wH (C:Cfg) (c:Code) (Q:QH) (sl:Nat->V) (H:Hp):Prop :=
 tC C c=true->∀S t,Ag H S t->∃f,Gst ⟨sl,S,t⟩ f/\wpD C c (Mi Q) f
theorem QZ {C:Cfg} {o:Oper} {sl:Nat->V} {S:Store} {tk:Nat} {K F:Eff->Prop} (h:∀A,K A->F A) (j:Ra C o sl S tk K):Ra C o sl S tk F:=by
 unfold Ra at *
 split at j
 ·obtain ⟨xs,e,h1,h2,f⟩:=j
  exact⟨xs,e,h1,h2,λb hb=>h _ (f b hb)⟩
 ·obtain ⟨d,n,bx,es,h1,h2,f,B,I,J⟩:=j
  exact⟨d,n,bx,es,h1,h2,f,B,I,h _ J⟩
 ·obtain ⟨n,cur,left,h1,h2,f,B⟩:=j
  exact⟨n,cur,left,h1,h2,λe=>h _ (f e),λi e he=>h _ (B i e he)⟩
 ·obtain ⟨n,e,left,h1,h2,f⟩:=j
  exact⟨n,e,left,h1,h2,h _ f⟩
 ·exact j
theorem x9 {C:Cfg} {all:List Oper} {tk:Nat} {K F:(Nat->V)->Store->Prop} (j:∀sl S,K sl S->F sl S):∀(l:List Oper) (sl:Nat->V) (S:Store),FV C all tk K l sl S->FV C all tk F l sl S
 | [],_,_,h=>j _ _ h
 | o::rest,sl,S,h=>by
  simp only [FV]at h ⊢
  obtain ⟨sl',S',I,h⟩:=h
  refine⟨sl',S',I,?_⟩
  split
  ·rename_i f;simp only [f]at h;exact h.imp (yA (λA B=>x9 j rest _ _ B)) (QZ (λA B=>x9 j rest _ _ B))
  ·rename_i f;simp only [f]at h;exact x9 j rest _ _ h
  ·rename_i f;simp only [f]at h
theorem Bc {C:Cfg} {all:List Oper} {tk:Nat} {K B:(Nat->V)->Store->Prop} (j:∀sl S,K sl S->B sl S):∀(l:List Oper) (k:Nat) (L:List (Nat×Eff)) (sl:Nat->V) (S:Store),opsL C all tk K l k L sl S->opsL C all tk B l k L sl S
 | [],_,_,_,_,h=>j _ _ h
 | o::rest,k,L,sl,S,h=>by
  simp only [opsL]at h ⊢
  split
  ·rename_i f;simp only [f]at h;exact yA (λA F=>⟨F.1,Bc j rest _ _ _ _ F.2⟩) h
  ·rename_i f;simp only [f]at h;exact Bc j rest _ _ _ _ h
  ·rename_i f;simp only [f]at h
theorem mW {C:Cfg}:∀(c:Code) {Q Q':Exit->St->Prop} {σ:St},(∀e σ,Q e σ->Q' e σ)->wpD C c Q σ->wpD C c Q' σ
 | .skip,_,_,_,f,h=>f _ _ h
 | .ret,_,_,_,f,h=>f _ _ h
 | .exit _,_,_,_,f,h=>f _ _ h
 | .seq x y,Q,Q',σ,f,h=>mW x (λe σ h=>by
   cases e with
   | normal=>obtain ⟨o,J,h⟩:=h;exact⟨o,J,mW y f h⟩
   | _=>exact f _ _ h) h
 | .cond c x y,Q,Q',σ,f,h=>by
  obtain ⟨t,L,h1,h2⟩:=h
  exact⟨t,L,λe=>(h1 e).imp λ_ h=>⟨h.1,mW x f h.2⟩,λe=>(h2 e).imp λ_ h=>⟨h.1,mW y f h.2⟩⟩
 | .block id x,Q,Q',σ,f,h=>mW x (λe σ h=>by
   cases e with
   | exit A =>
    simp only [Ky]at h ⊢
    cases hb:Nat.beq A id with
    | true=>rw [hb]at h;exact f _ _ h
    | false=>rw [hb]at h;exact f _ _ h
   | _=>exact f _ _ h) h
 | .loop x,Q,Q',σ,f,h=>by
  obtain ⟨I,m,B,F⟩:=h
  exact⟨I,m,B,λo hI=>mW x (λe σ h=>by
   cases e with
   | normal=>exact h
   | _=>exact f _ _ h) (F o hI)⟩
 | .region id ops j,Q,Q',σ,f,h=>by
  obtain ⟨h1,h2⟩:=h
  refine⟨h1,?_⟩
  cases j with
  | true=>exact⟨h2.1,h2.2.1,Bc (λ_ _=>f _ _) _ _ _ _ _ h2.2.2⟩
  | false=>exact x9 (λ_ _=>f _ _) _ _ _ h2
 | .rangeFunc ..,_,_,_,_,h=>h.elim
 | .scope _,_,_,_,_,h=>h.elim
 | .label _,_,_,_,_,h=>h.elim
 | .goto _,_,_,_,_,h=>h.elim
 | .refuse _,_,_,_,_,h=>h.elim
section
variable {C:Cfg} {Q:QH} {sl:Nat->V} {H:Hp}
def Nv (K:(Nat->V)->Hp->Prop) (Q:QH):QH
 | .normal,sl,H=>K sl H
 | e,sl,H=>Q e sl H
def Oh (id:Nat) (Q:QH):QH
 | .exit f,sl,H=>bif Nat.beq f id then Q .normal sl H else Q (.exit f) sl H
 | e,sl,H=>Q e sl H
theorem wH_mono {c:Code} {Q Q':QH} (h:∀e sl H,Q e sl H->Q' e sl H) (f:wH C c Q sl H):wH C c Q' sl H:=λok S t o=>by
 obtain ⟨σ,A,f⟩:=f ok S t o
 exact⟨σ,A,mW c (λe σ ⟨j,h1,h2⟩=>⟨j,h1,h _ _ _ h2⟩) f⟩
theorem av (h:Q .normal sl H):wH C .skip Q sl H:=λ_ S t f=>⟨_,.refl _,H,f,h⟩
theorem aC (h:Q .ret sl H):wH C .ret Q sl H:=λ_ S t f=>⟨_,.refl _,H,f,h⟩
theorem aU {id:Nat} (h:Q (.exit id) sl H):wH C (.exit id) Q sl H:=λ_ S t f=>⟨_,.refl _,H,f,h⟩
theorem ak {a b:Code} (h:wH C a (Nv (wH C b Q) Q) sl H):wH C (.seq a b) Q sl H:=λok S t A=>by
 simp only [tC,Bool.and_eq_true]at ok
 obtain ⟨σ,f,h⟩:=h ok.1 S t A
 refine⟨σ,f,mW a (λe σ h => ?_) h⟩
 obtain ⟨j,h1,h2⟩:=h
 cases e with
 | normal =>
  obtain ⟨B,o,F⟩:=h2 ok.2 σ.store σ.tick h1
  exact⟨B,o,F⟩
 | _=>exact⟨j,h1,h2⟩
theorem aM {id:Nat} {c:Code} (h:wH C c (Oh id Q) sl H):wH C (.block id c) Q sl H:=λok S t A=>by
 obtain ⟨σ,o,h⟩:=h ok S t A
 refine⟨σ,o,mW c (λe σ h => ?_) h⟩
 obtain ⟨f,h1,h2⟩:=h
 cases e with
 | exit j =>
  simp only [Ky,Oh]at *
  cases hb:Nat.beq j id with
  | true=>rw [hb]at h2;exact⟨f,h1,h2⟩
  | false=>rw [hb]at h2;exact⟨f,h1,h2⟩
 | _=>exact⟨f,h1,h2⟩
theorem wH_if {c:Operand} {x y:Code} {b:Bool} (h:ev sl c = .d (.bool b)) (h1:b=true->wH C x Q sl H) (h2:b=false->wH C y Q sl H):wH C (.cond c x y) Q sl H:=λok S t f=>by
 simp only [tC,Bool.and_eq_true]at ok
 exact⟨_,.refl _,b,h,λe=>h1 e ok.1 S t f,λe=>h2 e ok.2 S t f⟩
theorem ay {c:Operand} {x y:Code} {b:Bool} (f:ev sl c = .d (.bool b)) (hb:b=true) (h:wH C x Q sl H):wH C (.cond c x y) Q sl H :=
 wH_if f (λ_=>h) (λe=>by rw [hb]at e;cases e)
theorem ax {c:Operand} {x y:Code} {b:Bool} (f:ev sl c = .d (.bool b)) (hb:b=false) (h:wH C y Q sl H):wH C (.cond c x y) Q sl H :=
 wH_if f (λe=>by rw [hb]at e;cases e) (λ_=>h)
theorem wT {c:Code} {sl':Nat->V} {f:Hp} (h:wH C c Q sl' f) (j:∀S t,Ag H S t->∃S',Gst ⟨sl,S,t⟩ ⟨sl',S',t⟩/\Ag f S' t):wH C c Q sl H:=λok S t A=>by
 obtain ⟨S',h1,h2⟩:=j S t A
 obtain ⟨σ,o,B⟩:=h ok S' t h2
 exact⟨σ,h1.trans o,B⟩
def pick (f:List (Nat×V)) (sl:Nat->V):List (Nat×V):=f.map λp=>(p.1,sl p.1)
theorem QF {c:Code} (f:List (Nat×V)) (he:pick f sl=f) (h:wH C c Q (envS f) H):wH C c Q sl H :=
 wT h λS t j=>⟨S,by
  have:=Gst.forget ⟨sl,S,t⟩ (f.map (·.1))
  have e:((f.map (·.1)).map λk=>(k,sl k))=f:=by rw [List.map_map];exact he
  simp only [e]at this
  exact this,j⟩
def pre (H0 H:Hp):Prop:=∃f:List Nat,f.Nodup/\f.map (λi=>H[i]?)=H0.map some
theorem aG {H0 H:Hp} (h:H.take H0.length=H0):pre H0 H:=by
 have hl:H0.length<=H.length:=by
  have:=congrArg List.length h
  rw [List.length_take]at this;omega
 refine⟨List.range H0.length,List.nodup_range,?_⟩
 refine List.ext_getElem (by simp) (λi h1 h2 => ?_)
 simp only [List.length_map]at h2
 simp only [List.getElem_map,List.getElem_range]
 have:H0[i]? = H[i]? := by
  conv=>lhs;rw [<- h]
  rw [List.getElem?_take,if_pos h2]
 rw [<- this,List.getElem?_eq_getElem h2]
theorem Bv {H0 H:Hp} {f:List Nat} (h:f.map (λi=>H[i]?)=H0.map some):f.length=H0.length/\∀(i:Nat) (h1:i<f.length) (h2:i<H0.length),H[f[i]]? = some H0[i]:=by
 have hl:f.length=H0.length:=by simpa using congrArg List.length h
 refine⟨hl,λi h1 h2 => ?_⟩
 have:=congrArg (λl=>l[i]?) h
 simpa [List.getElem?_map,List.getElem?_eq_getElem h1,List.getElem?_eq_getElem h2]using this
theorem Ag.pre {S:Store} {t:Nat} {H0:Hp} (h:pre H0 H) (F:Ag H S t):Ag H0 S t:=by
 obtain ⟨j,O,he⟩:=h
 obtain ⟨hl,I⟩:=Bv he
 refine⟨F.pos,?_,λp R => ?_⟩
 ·refine List.pairwise_iff_getElem.2 (λa b M hb J e => ?_)
  simp only [List.length_map]at M hb
  simp only [List.getElem_map]at e
  have B:=List.getElem?_eq_some_iff.1 (I a (by omega) M)
  have A:=List.getElem?_eq_some_iff.1 (I b (by omega) hb)
  obtain ⟨L,B⟩:=B
  obtain ⟨N,A⟩:=A
  have hij:j[a]≠j[b]:=λe=>by
   have:=(List.pairwise_iff_getElem.1 O) a b (by omega) (by omega) J
   exact this e
  have o:=F.nd
  rcases Nat.lt_or_gt_of_ne hij with f|f
  ·have:=(List.pairwise_iff_getElem.1 o) j[a] j[b] (by simpa using L) (by simpa using N) f
   simp only [List.getElem_map]at this
   rw [B,A]at this
   exact this e
  ·have:=(List.pairwise_iff_getElem.1 o) j[b] j[a] (by simpa using N) (by simpa using L) f
   simp only [List.getElem_map]at this
   rw [B,A]at this
   exact this e.symm
 ·obtain ⟨i,hi,rfl⟩:=List.getElem_of_mem R
  exact F.at_ _ (List.mem_of_getElem? (I i (by omega) hi))
def KL {β:Type} (f:β->List (Nat×V)) (h:β->Hp) (R:β->Prop):(Nat->V)->Hp->Prop:=λsl H=>∃x,R x/\Eng.pick (f x) sl=f x/\Eng.pre (h x) H
theorem UG {c:Code} {H0:Hp} (h:Eng.pre H0 H) (f:wH C c Q sl H0):wH C c Q sl H:=wT f (λS t j=>⟨S,.refl _,j.pre h⟩)
theorem lu {c:Code} {β:Type} (f:β->List (Nat×V)) (o:β->Hp) (R:β->Prop) (h1:wH C c (Nv (KL f o R) Q) sl H) (h2:∀x,R x->∀sl' j,Eng.pick (f x) sl'=f x->Eng.pre (o x) j->Q .normal sl' j):wH C c Q sl H:=by
 refine wH_mono (λe sl H h => ?_) h1
 cases e with
 | normal =>
  obtain ⟨x,A,he,B⟩:=h
  exact h2 x A _ _ he B
 | _=>exact h
theorem aO {c:Code} {H0:Hp} (f:List (Nat×V)) (he:Eng.pick f sl=f) (j:Eng.pre H0 H) (h:wH C c Q (envS f) H0):wH C c Q sl H:=UG j (QF f he h)
def loopE {β:Type} (f:β->List (Nat×V)) (h:β->Hp) (R:β->Prop) (m:β->Nat) (x:β) (sl:Nat->V) (H:Hp):Prop:=∃x',R x'/\m x'<m x/\pick (f x') sl=f x'/\pre (h x') H
def Ke {β:Type} (f:β->List (Nat×V)) (h:β->Hp) (R:β->Prop) (m:β->Nat) (x:β) (Q:QH):QH
 | .normal,sl,H=>loopE f h R m x sl H
 | e,sl,H=>Q e sl H
theorem ND {f:List (Nat×V)} {S:Store} {t:Nat} (he:pick f sl=f):Gst ⟨sl,S,t⟩ ⟨envS f,S,t⟩:=by
 have:=Gst.forget ⟨sl,S,t⟩ (f.map (·.1))
 have e:((f.map (·.1)).map λk=>(k,sl k))=f:=by rw [List.map_map];exact he
 simp only [e]at this
 exact this
open Classical in
theorem DL {c:Code} {β:Type} (f:β->List (Nat×V)) (N:β->Hp) (R:β->Prop) (m:β->Nat) (F:β) (hx:R F) (he:pick (f F) sl=f F) (hH:pre (N F) H)
  (h:∀x,R x->wH C c (Ke f N R m x Q) (envS (f x)) (N x)):wH C (.loop c) Q sl H:=by
 intro ok S t T
 have ag:=T.pre hH
 let I:St->Nat->Prop:=λσ n=>∃x,R x/\m x=n/\Ag (N x) σ.store σ.tick/\σ.slots=envS (f x)
 have key:∀σ n,I σ n->∃L,Gst σ L/\wpD C c (seqQ (λo=>∃A,Gst o A/\∃j,j<n/\I A j) (Mi Q)) L:=by
  rintro ⟨sl',S',t'⟩ n ⟨x,hR,hm,Y,rfl⟩
  obtain ⟨L,hg,hw⟩:=h x hR ok S' t' Y
  refine⟨L,hg,mW c (λe σ h => ?_) hw⟩
  obtain ⟨H',h1,h2⟩:=h
  cases e with
  | normal =>
   obtain ⟨x',hR',M,Z,hp⟩:=h2
   exact⟨⟨envS (f x'),σ.store,σ.tick⟩,ND Z,m x',by omega,x',hR',rfl,h1.pre hp,rfl⟩
  | _=>exact⟨H',h1,h2⟩
 let J:St->Nat->Prop:=λL n=>wpD C c (seqQ (λo=>∃A,Gst o A/\∃j,j<n/\I A j) (Mi Q)) L
 have hI0:I ⟨envS (f F),S,t⟩ (m F):=⟨F,hx,rfl,ag,rfl⟩
 obtain ⟨σ0,O,hJ0⟩:=key _ _ hI0
 refine⟨⟨sl,S,t⟩,.refl _,?_⟩
 show wpD C (.loop c) (Mi Q) _
 refine⟨λσ=>∃n,J σ n,λσ=>leastOf (J σ),⟨σ0,(ND he).trans O,_,hJ0⟩,λσ hJ => ?_⟩
 obtain ⟨h1,h2⟩:=leastOf_spec hJ
 refine mW c (λe o hq => ?_) h1
 cases e with
 | normal =>
  obtain ⟨A,W,j,M,hI⟩:=hq
  obtain ⟨σ4,hg4,B⟩:=key A j hI
  refine⟨σ4,W.trans hg4,⟨j,B⟩,?_⟩
  have:=(leastOf_spec (p:=J σ4) ⟨j,B⟩).2 j B
  exact Nat.lt_of_le_of_lt this M
 | _=>exact hq
theorem AgR.start {S:Store} {t:Nat} (h:Ag H S t) (ops:List Oper):AgR H S t ops:=⟨h.pos,h.nd,λp f=>⟨.inl (h.at_ p f).1,(h.at_ p f).2⟩⟩
theorem AgR.fin {S:Store} {t:Nat} (h:AgR H S t []):Ag H S (t+1):=⟨Nat.succ_pos _,h.nd,λp f=>⟨by rcases (h.at_ p f).1 with h1 | ⟨h1,_⟩ <;> omega,(h.at_ p f).2⟩⟩
theorem AgR.tail {S:Store} {t:Nat} {o:Oper} {rest:List Oper} (h:AgR H S t (o::rest)):AgR H S t rest:=⟨h.pos,h.nd,λp f=>⟨by
 rcases (h.at_ p f).1 with h1|⟨h1,h2⟩
 ·exact .inl h1
 ·exact .inr ⟨h1,λo ho=>h2 o (List.mem_cons_of_mem _ ho)⟩,(h.at_ p f).2⟩⟩
theorem uT.tail {o:Oper} {rest:List Oper} (h:uT C (o::rest)):uT C rest:=⟨by
 have:=h.1;simp only [mU,Bool.and_eq_true]at this;exact this.2,λo ho=>h.2 o (List.mem_cons_of_mem _ ho)⟩
theorem au {id:Nat} {ops:List Oper} (h:aZ none C ops (λsl H=>Q .normal sl H) ops sl H):wH C (.region id ops.toArray false) Q sl H:=λok S t A=>by
 refine⟨_,.refl _,?_⟩
 simp only [tC,Bool.not_false,Bool.true_or,Bool.and_true]at ok
 have f:=ok
 simp only [Cc,Bool.and_eq_true]at f
 have h1:=h S t ⟨f.2,λo ho=>List.all_eq_true.1 f.1 o ho⟩ (AgR.start A _)
 refine⟨ok,?_⟩
 exact x9 (λsl S ⟨j,h1,h2⟩=>⟨j,h1.fin,h2⟩) _ _ _ h1
theorem bg {id:Nat} {ops:List Oper} (h:aZ (some []) C ops (λsl H=>Q .normal sl H) ops sl H):wH C (.region id ops.toArray true) Q sl H:=λok S t F=>by
 refine⟨_,.refl _,?_⟩
 simp only [tC,Bool.and_eq_true,Bool.not_true,Bool.false_or]at ok
 obtain ⟨j,A,hl⟩:=ok
 have f:=j
 simp only [Cc,Bool.and_eq_true]at f
 have h1:=h S t ⟨f.2,λo ho=>List.all_eq_true.1 f.1 o ho⟩ (AgR.start F _) 0 [] (by simp) (λp I=>by cases I) (λe he=>by cases he)
 refine⟨j,A,hl,?_⟩
 exact Bc (λsl S ⟨B,h1,h2⟩=>⟨B,h1.fin,h2⟩) _ _ _ _ _ h1
variable {q:Qm} {all rest:List Oper} {K:(Nat->V)->Hp->Prop}
theorem af (h:K sl H):aZ q C all K [] sl H:=λS tk _ f=>by
 cases q with
 | none=>exact⟨H,f,h⟩
 | some Γ=>intro k L _ _ _;exact⟨H,f,h⟩
theorem D7 {all:List Oper} {k:Nat} {A:Eff} {T:List Nm} {w:Bool} {Γ:List Fp} (I:(∀x∈A.req,x.1∈T)/\∀x∈A.upd,x.1∈T) (M:w=false->A.upd=[]) (O:R4 all k T w Γ):∀{L:List (Nat×Eff)},LogOK Γ L->Gf all k A L
 | [],_=>trivial
 | (j,B)::L,h=>by
  refine⟨?_,D7 I M O (λp o=>h p (by simp [o]))⟩
  rcases h (j,B) (by simp)with⟨h1,h2⟩|⟨e,he,h1,h2,J,R⟩
  ·exact .inl (by unfold Dis;dsimp only at h1 h2;rw [h1,h2];simp)
  ·have key:∀{Γ:List Fp},R4 all k T w Γ->e∈Γ->(w=false/\e.2.2=false)\/(∀n∈T,n∉e.2.1)\/Dv all 4 e.1 k=true:=by
    intro Γ
    induction Γ with
    | nil=>intro _ h;cases h
    | cons x Γ Y =>
     intro h1 h2
     rcases List.mem_cons.1 h2 with rfl|h2
     ·exact h1.1
     ·exact Y h1.2 h2
   rcases key O he with⟨f,W⟩|f|f
   ·have Z:=M f
    have N:=R W
    exact .inl (by unfold Dis;dsimp only at N;rw [Z,N];simp)
   ·refine .inl ⟨λp o=>⟨λx F e' => ?_,λx F e' => ?_⟩,λx F p o e' => ?_⟩
    ·exact f _ (I.2 p o) (e' ▸ h2 x F)
    ·exact f _ (I.2 p o) (e' ▸ J x F)
    ·exact f _ (I.1 p o) (e' ▸ J x F)
   ·rw [h1]at f;exact .inr f
theorem nW {o:Oper} {v:V} (O:aQ all sl o=some true) (j:∀S tk (R:Eff->Prop),AgR H S tk (o::rest)->(∀A,A.upd=[]->A.req=[]->A.val=v->R A)->opD C o sl S tk R)
  (h:aZ q C all K rest (dI sl o.dst v) H):aZ q C all K (o::rest) sl H:=λS tk ok I=>by
 have F:=h S tk ok.tail I.tail
 cases q with
 | none =>
  refine⟨sl,S,.refl _,?_⟩
  simp only [O]
  exact .inl (j S tk _ I (λA f J M=>by rw [f,M];exact F))
 | some Γ =>
  intro k L Y N W
  simp only [opsL,O]
  refine j S tk _ I (λA f J M=>⟨?_,?_⟩)
  ·refine D7 (T:=[]) (w:=false) (Γ:=Γ) ⟨by rw [J];simp,by rw [f];simp⟩ (λ_=>f) ?_ N
   clear F N h W
   induction Γ with
   | nil=>trivial
   | cons e Γ ih=>exact⟨.inr (.inl (λn Z=>by cases Z)),ih⟩
  rw [f,M]
  exact F (k+1) ((k,A)::L) (by simp only [List.length_cons]at Y;omega) (λp B=>by
   rcases List.mem_cons.1 B with B|B
   ·rw [B];exact .inl ⟨f,J⟩
   ·exact N p B) W.tail
theorem dK {o:Oper} (j:aQ all sl o=some false) (h:aZ q C all K rest (dI sl o.dst .none) H):aZ q C all K (o::rest) sl H:=λS tk ok I=>by
 have f:=h S tk ok.tail I.tail
 cases q with
 | none =>
  refine⟨sl,S,.refl _,?_⟩
  simp only [j]
  exact f
 | some Γ =>
  intro k L A F B
  simp only [opsL,j]
  exact f (k+1) L (by simp only [List.length_cons]at A;omega) F B.tail
theorem Np {o:Oper} (k:Nat) (w:Bool) (F:q=none\/Nat.beq all.length (k+(rest.length+1))=true) (Y:aQ all sl o=some true)
  (M:∀S tk (K':Eff->Prop),uT C (o::rest)->AgR H S tk (o::rest)->oldQ q tk (o::rest) ->
   (∀A N T,okQ q all k T w->(∀m∈T,LJ tk rest m)->((∀x∈A.req,x.1∈T)/\∀x∈A.upd,x.1∈T)->(w=false->A.upd=[])->AgR N (fo S A.upd) tk rest->aZ (pO q k T w) C all K rest (dI sl o.dst A.val) N->K' A)->opD C o sl S tk K') :
  aZ q C all K (o::rest) sl H:=λS tk ok Z=>by
 cases q with
 | none =>
  refine⟨sl,S,.refl _,?_⟩
  simp only [Y]
  exact .inl (M S tk _ ok Z trivial (λA N T _ _ _ _ f h=>h _ tk ok.tail f))
 | some Γ =>
  intro k' L j hL hO
  have O:k'=k:=by
   rcases F with F|F
   ·cases F
   ·have:=Nat.eq_of_beq_eq_true F
    simp only [List.length_cons]at j
    omega
  subst O
  simp only [opsL,Y]
  refine M S tk _ ok Z hO (λA N T hf I R J f h=>⟨D7 R J hf hL,?_⟩)
  have h':=h _ tk ok.tail f
  exact h' (k'+1) ((k',A)::L) (by simp only [List.length_cons]at j;omega) (λp B=>by
   rcases List.mem_cons.1 B with B|B
   ·rw [B];exact .inr ⟨(k',T,w),by simp,rfl,R.1,R.2,J⟩
   ·rcases hL p B with h1|⟨e,h1,h2⟩
    ·exact .inl h1
    ·exact .inr ⟨e,by simp [h1],h2⟩) (λe he m W=>by
   rcases List.mem_append.1 he with he|he
   ·exact (hO e he m W).tail
   ·rw [List.mem_singleton]at he;subst he;exact I m W)
theorem AgR.old {S:Store} {tk:Nat} {l:List Oper} (f:AgR H S tk l) {m:Nm} (h:m∈H.map (·.1)):LJ tk l m:=by
 obtain ⟨p,j,rfl⟩:=List.mem_map.1 h
 exact (f.at_ p j).1
theorem ol {o:Oper} (k:Nat) (T:List Nm) (w:Bool) (J:q=none\/Nat.beq all.length (k+(rest.length+1))=true) (O:∀S tk,AgR H S tk (o::rest)->okQ q all k T w) (F:∀m∈T,m∈H.map (·.1)) (M:aQ all sl o=some true)
  (j:∀S tk (h:Eff->Prop),uT C (o::rest)->AgR H S tk (o::rest) ->
   (∀A f,((∀x∈A.req,x.1∈T)/\∀x∈A.upd,x.1∈T)->(w=false->A.upd=[])->AgR f (fo S A.upd) tk rest->aZ (pO q k T w) C all K rest (dI sl o.dst A.val) f->h A)->opD C o sl S tk h) :
  aZ q C all K (o::rest) sl H :=
 Np k w J M (λS tk h ok B _ R=>j S tk h ok B (λA f h1 h2 L N=>R A f T (O S tk B) (λm I=>(B.old (F m I)).tail) h1 h2 L N))
theorem wP {H:Hp} {k:Nat} {n:Nm} {b:Option Box} (h:H[k]? = some (n,b)):∀m ∈ [n],m∈H.map (·.1):=λm f=>by
 rw [List.mem_singleton]at f;subst f
 exact List.mem_map.2 ⟨_,List.mem_of_getElem? h,rfl⟩
theorem yM {q:Qm} {all:List Oper} {k:Nat} {w:Bool}:okQ q all k [] w:=by
 cases q with
 | none=>trivial
 | some Γ =>
  show R4 all k [] w Γ
  induction Γ with
  | nil=>trivial
  | cons e Γ h=>exact⟨.inr (.inl (λn f=>by cases f)),h⟩
theorem Lc {q:Qm} {all:List Oper} {k:Nat} {T f:List Nm} {w:Bool} (hs:∀m∈f,m∈T) (h:okQ q all k T w):okQ q all k f w:=by
 cases q with
 | none=>trivial
 | some Γ =>
  simp only [okQ]at h ⊢
  induction Γ with
  | nil=>trivial
  | cons e Γ o=>exact⟨h.1.imp id (λh=>h.imp (λh n j=>h n (hs n j)) id),o h.2⟩
theorem okQ_add {q:Qm} {all rest:List Oper} {k tk:Nat} {T:List Nm} {n:Nm} (h:okQ q all k T true) (ho:oldQ q tk rest) (j:¬LJ tk rest n):okQ q all k (T++[n]) true:=by
 cases q with
 | none=>trivial
 | some Γ =>
  simp only [oldQ]at ho
  simp only [okQ]at h ⊢
  induction Γ with
  | nil=>trivial
  | cons e Γ o =>
   refine⟨?_,o h.2 (λe he=>ho e (by simp [he]))⟩
   rcases h.1 with⟨h1,_⟩|h1|h1
   ·cases h1
   ·refine .inr (.inl (λm f he => ?_))
    rcases List.mem_append.1 f with f|f
    ·exact h1 m f he
    ·rw [List.mem_singleton]at f;subst f;exact j (ho e (by simp) m he)
   ·exact .inr (.inr h1)
theorem Gst.at_tick {a b:St} (h:Gst a b) (t:Nat):Gst ⟨a.slots,a.store,t⟩ ⟨b.slots,b.store,t⟩:=by
 induction h with
 | refl σ=>exact .refl _
 | forget σ ks=>exact .forget ⟨σ.slots,σ.store,t⟩ ks
 | froz σ n=>exact .froz ⟨σ.slots,σ.store,t⟩ n
 | co σ k=>exact .co ⟨σ.slots,σ.store,t⟩ k
 | coB σ n sz cs h=>exact .coB ⟨σ.slots,σ.store,t⟩ n sz cs h
 | coM σ n sz cs f h hl hc=>exact .coM ⟨σ.slots,σ.store,t⟩ n sz cs f h hl hc
 | shr σ n sz m xs h=>exact .shr ⟨σ.slots,σ.store,t⟩ n sz m xs h
 | pm σ n h=>exact .pm ⟨σ.slots,σ.store,t⟩ n h
 | trans _ _ h1 h2=>exact h1.trans h2
theorem h_ghost {o:Oper} {sl':Nat->V} {F:Hp} (W:∀{c:Code} {Q:QH},wH C c Q sl' F->wH C c Q sl H) (Z:F.map (·.1)=H.map (·.1)) (h:aZ none C all K (o::rest) sl' F):aZ none C all K (o::rest) sl H:=λS tk ok j=>by
 have O:wH C .skip (λ_ f N=>f=sl'/\N=F) sl H:=W (av ⟨rfl,rfl⟩)
 have L:Ag H S (tk+1):=⟨Nat.succ_pos _,j.nd,λp A=>⟨by rcases (j.at_ p A).1 with h1 | ⟨h1,_⟩ <;> omega,(j.at_ p A).2⟩⟩
 obtain ⟨σ,hg,N,B,hs,rfl⟩:=O rfl S (tk+1) L
 have M:=hg.at_tick tk
 subst hs
 have ag3:AgR N σ.store tk (o::rest):=⟨j.pos,B.nd,λp A=>by
  have T:p.1∈H.map (·.1):=by rw [<- Z];exact List.mem_map.2 ⟨p,A,rfl⟩
  obtain ⟨p',I,he⟩:=List.mem_map.1 T
  exact⟨by rw [<- he];exact (j.at_ p' I).1,(B.at_ p A).2⟩⟩
 have:=h σ.store tk ok ag3
 show FV _ _ _ _ (o::rest) sl S
 obtain ⟨f,R,J,Y⟩:=this
 exact⟨f,R,M.trans J,Y⟩
theorem NU {o:Oper} (I:aQ all sl o=some true)
  (f:∀S tk (F:Eff->Prop),uT C (o::rest)->AgR H S tk (o::rest)->(∀A j,AgR j (fo S A.upd) tk rest->aZ none C all K rest (dI sl o.dst A.val) j->F A)->opD C o sl S tk F):aZ none C all K (o::rest) sl H:=λS tk ok J=>by
 refine⟨sl,S,.refl _,?_⟩
 simp only [I]
 exact .inl (f S tk _ ok J (λA j B h=>h _ tk ok.tail B))
theorem h_nileq {α:Type} {enc:α->List D} {xs:List α} {dst:Option Tmp} {t ty j e:TypeId} {x:Operand} {pos:String} {after:Array Edge} {g:Option (Nat×Bool)} (F:C.P.underlying t=some (.slice e)) (o:ev sl x = .d (.sl (xs.map enc)))
  (A:aQ all sl ⟨dst,.binOp .eql t x (.const (.slice none 0 0)) j,ty,pos,after,g⟩=some true)
  (h:∀b:Bool,(b=true->xs=[])->aZ none C all K rest (dI sl dst (.d (.bool b))) H):aZ none C all K (⟨dst,.binOp .eql t x (.const (.slice none 0 0)) j,ty,pos,after,g⟩::rest) sl H:=λS tk ok B=>by
 refine⟨sl,S,.refl _,?_⟩
 simp only [A]
 refine .inr ⟨xs.map enc,e,o,F,λb hb=>h b (λf => ?_) S tk ok.tail B.tail⟩
 cases xs with
 | nil=>rfl
 | cons x xs=>have:=hb (by simp);rw [this]at f;cases f
end
end Go.Eng

/-
  THE ENGINE: loads, stores and fields by the facts of a type; what a naming leaves alone.
-/
namespace Go.Eng
set_option linter.unusedSectionVars false
variable [DM]
set_option linter.unusedVariables false
def Mj (agg:Bool) (size:Nat) (n:Nm) (i j:Nat):Option Box->Option Eff
 | some (.vec sz xs)=>match xs[i]? with
  | some cs=>(rdD agg size (cs.drop j)).map λv=>⟨[(n,.vec sz xs)],[],v⟩
  | none=>none
 | some (.froz sz xs)=>match xs[i]? with
  | some cs=>(rdD agg size (cs.drop j)).map λv=>⟨[(n,.froz sz xs)],[],v⟩
  | none=>none
 | some (.cells sz cs)=>(rdV agg size (cs.drop (i*sz+j))).map λv=>⟨[(n,.cells sz cs)],[],v⟩
 | _=>none
theorem Eh {P:Program} {t:TypeId} {agg:Bool} {size:Nat} (h1:szT P t=some size) (h2:bU P t=agg) (S:Store) (n:Nm) (i j:Nat):vN P t S (.ref n i j)=Mj agg size n i j (S n):=by
 simp only [vN,h1,h2,Mj]
 cases S n with
 | none=>rfl
 | some b=>cases b <;> rfl
theorem Oq {P:Program} {t:TypeId} {agg:Bool} {size:Nat} (h1:szT P t=some size) (h2:bU P t=agg) (S:Store) (cs:List D):vN P t S (.d (.ptr cs))=(rdD agg size cs).bind gM:=by
 simp only [vN,h1,h2]
def KE (size:Nat) (n:Nm) (i j:Nat) (x:V):Option Box->Option Eff
 | some (.cells sz cs) =>
  bif Nat.beq (bH x).length size&&Nat.ble (i*sz+j+size) cs.length&&(bH x).all kW&&Nat.blt sz 1048576 then
   some ⟨[(n,.cells sz cs)],[(n,some (.cells sz (splice cs (bH x) (i*sz+j))))],.none⟩
  else none
 | some (.vec sz xs)=>match xs[i]?,uX (bH x)with
  | some cs,some new =>
   bif Nat.beq new.length size&&Nat.ble (j+size) cs.length&&(bH x).all kW then
    some ⟨[(n,.vec sz xs)],[(n,some (.vec sz (xs.set i (splice cs new j))))],.none⟩
   else none
  | _,_=>none
 | _=>none
theorem GU {P:Program} {t:TypeId} {size:Nat} (h1:szT P t=some size) (S:Store) (n:Nm) (i j:Nat) (x:V):zo P t S (.ref n i j) x=KE size n i j x (S n):=by
 simp only [zo,h1,KE]
 cases S n with
 | none=>rfl
 | some b=>cases b <;> rfl
theorem G7 {P:Program} {t:TypeId} {f off s:Nat} (h:bB P t f=some (off,s+1)) (n:Nm) (i j:Nat):kN P t (.ref n i j) f=some ⟨[],[],.ref n i (j+off)⟩:=by
 unfold bB at h
 unfold kN
 cases hf:Al P t f with
 | none=>rw [hf]at h;cases h
 | some A =>
  simp only [hf,Option.map_eq_some_iff]at h
  obtain ⟨o,h1,h2⟩:=h
  cases h2
  simp only [h1];rfl
theorem FE {P:Program} {t:TypeId} {f off s:Nat} (h:bB P t f=some (off,s+1)) (cs:List D):kN P t (.d (.ptr cs)) f=bif Nat.ble off cs.length then some ⟨[],[],.d (.ptr (cs.drop off))⟩else none:=by
 unfold bB at h
 unfold kN
 cases hf:Al P t f with
 | none=>rw [hf]at h;cases h
 | some o =>
  simp only [hf,Option.map_eq_some_iff]at h
  obtain ⟨j,h1,h2⟩:=h
  cases h2
  simp only [h1];rfl
def Rp (size:Nat) (x:V) (i:Int):Option Eff:=match x with
 | .d (.sl xs)=>match xs[i.toNat]? with
  | some cs=>bif Nat.beq cs.length size then gM (.d (.ptr cs))else none
  | none=>none
 | .vs n sz k len=>bif Nat.ble (i.toNat+1) len&&Nat.beq sz size then gM (.ref n (k+i.toNat) 0)else none
 | _=>none
theorem Ch {P:Program} {t:TypeId} {size:Nat} (h:(bG P t).bind (szT P)=some size) (x:V) (k:IntKind) (i:Int):kr P t x (.d (.int k i))=bif decide (0<=i)then Rp size x i else none:=by
 simp only [kr,h,Rp]
 rfl
theorem idxB_sl {size:Nat} {xs:List (List D)} {i:Int} {cs:List D} (h:xs[i.toNat]? = some cs) (hl:cs.length=size):Rp size (.d (.sl xs)) i=some ⟨[],[],.d (.ptr cs)⟩:=by
 subst hl
 simp only [Rp,h,Nat.beq_refl,cond_true];rfl
theorem idxB_vs {size:Nat} {n:Nm} {k len:Nat} {i:Int} (h:i.toNat<len):Rp size (.vs n size k len) i=some ⟨[],[],.ref n (k+i.toNat) 0⟩:=by
 simp only [Rp,Nat.beq_refl,Bool.and_true,Nat.ble_eq_true_of_le h,cond_true];rfl
theorem Gq (l:List Box) (i:Nat):kS l (aA i)=l[i]? := by simp only [kS,w9]
theorem wW {ρ:List Nm} {v:V} (h:okV 0 v=true):ren ρ v=v :=
 Ci ρ 0 (λn f=>by obtain ⟨i,hi,_⟩:=xe f;exact absurd hi (Nat.not_lt_zero i)) _ h
theorem KD {ρ:List Nm} {vs:List V} (h:okL 0 vs=true):renL ρ vs=vs :=
 yN ρ 0 (λn f=>by obtain ⟨i,hi,_⟩:=xe f;exact absurd hi (Nat.not_lt_zero i)) _ h
theorem vo {ρ:List Nm} {b:Box} (h:b.ok 0=true):b.ren ρ=b:=by
 cases b with
 | cells sz cs=>simp only [Box.ok]at h;simp only [Box.ren,KD h]
 | pmap es =>
  simp only [Box.ren,Box.pmap.injEq]
  exact (List.map_congr_left (λe he=>by rw [wW (List.all_eq_true.1 h e he)];rfl)).trans (List.map_id _)
 | iter cur left =>
  simp only [Box.ok,Bool.and_eq_true]at h
  simp only [Box.ren,Box.iter.injEq]
  refine⟨?_,(List.map_congr_left (λe he=>by rw [wW (List.all_eq_true.1 h.2 e he)];rfl)).trans (List.map_id _)⟩
  cases cur with
  | none=>rfl
  | some x=>simp only [Option.map_some,wW (v:=x.2) (by simpa using h.1)]
 | _=>rfl
theorem GJ {k k':Nat} (h:k<=k') {n:Nm} (f:okN k n=true):okN k' n=true:=by
 unfold okN at *
 split
 ·rename_i i hi
  rw [hi]at f
  have h1:Nat.blt i k=true:=f
  simp only [Nat.blt_eq]at h1 ⊢
  omega
 ·rename_i hi;rw [hi]at f;exact f
mutual
theorem wS {k k':Nat} (h:k<=k'):∀(v:V),okV k v=true->okV k' v=true
 | .ref n i j,o=>by simp only [okV]at *;exact GJ h o
 | .vs n sz a len,o=>by simp only [okV]at *;exact GJ h o
 | .map n,o=>by simp only [okV]at *;exact GJ h o
 | .fn f caps,o=>by simp only [okV]at *;exact vX h caps o
 | .agg cs,o=>by simp only [okV]at *;exact vX h cs o
 | .tup vs,o=>by simp only [okV]at *;exact vX h vs o
 | .d _,_=>rfl
 | .nil,_=>rfl
 | .nilm,_=>rfl
 | .nili,_=>rfl
 | .none,_=>rfl
 | .any,_=>rfl
theorem vX {k k':Nat} (h:k<=k'):∀(vs:List V),okL k vs=true->okL k' vs=true
 | [],_=>rfl
 | v::vs,f=>by
  simp only [okL,Bool.and_eq_true]at *
  exact⟨wS h v f.1,vX h vs f.2⟩
end
theorem Box.ok_mono {k k':Nat} (h:k<=k') {b:Box} (hb:b.ok k=true):b.ok k'=true:=by
 cases b with
 | cells sz cs=>exact vX h cs hb
 | pmap es=>exact List.all_eq_true.2 (λe he=>wS h _ (List.all_eq_true.1 hb e he))
 | iter cur left =>
  simp only [Box.ok,Bool.and_eq_true]at hb ⊢
  refine⟨?_,List.all_eq_true.2 (λe he=>wS h _ (List.all_eq_true.1 hb.2 e he))⟩
  cases cur with
  | none=>rfl
  | some x=>exact wS h _ (by simpa using hb.1)
 | _=>rfl
theorem GK {i k:Nat} (h:i<k):okN k (aA i)=true:=by simp only [okN,w9];simpa [Nat.blt_eq]using h
end Go.Eng

/-
  THE ENGINE: the rules for single operations over a list of known boxes.
-/
namespace Go.Eng
set_option linter.unusedSectionVars false
variable [DM]
set_option linter.unusedVariables false
abbrev w64 (n:Int):Int:=IntKind.i64.wrap n
abbrev vI (n:Int):V := .d (.int .i64 n)
abbrev vB (b:Bool):V := .d (.bool b)
abbrev vS (s:ByteArray):V := .d (.str s)
abbrev dl {α:Type} (enc:α->List D) (xs:List α):D := .sl (xs.map enc)
abbrev vL {α:Type} (enc:α->List D) (xs:List α):V := .d (.sl (xs.map enc))
abbrev vV {α:Type} (n:Nm) (sz:Nat) (xs:List α):V := .vs n sz 0 xs.length
abbrev bV {α:Type} (sz:Nat) (enc:α->List D) (xs:List α):Box := .vec sz (xs.map enc)
abbrev bF {α:Type} (sz:Nat) (enc:α->List D) (xs:List α):Box := .froz sz (xs.map enc)
def gV {α:Type} (n:Nm) (sz:Nat):List α->V
 | [] => .nil
 | x::xs => .vs n sz 0 (x::xs).length
def gB {α:Type} (sz:Nat) (enc:α->List D):List α->Option Box
 | []=>none
 | x::xs=>some (.vec sz ((x::xs).map enc))
def gF {α:Type} (sz:Nat) (enc:α->List D):List α->Option Box
 | []=>none
 | x::xs=>some (.froz sz ((x::xs).map enc))
def eI (n:Int):List D:=[.int .i64 n]
def eS (s:ByteArray):List D:=[.str s]
def eB (b:Bool):List D:=[.bool b]
def idx {α:Type} (xs:List α) (i:Int):Option α:=if 0<=i then xs[i.toNat]? else none
section
variable {C:Cfg} {sl:Nat->V} {H:Hp} {q:Qm} {all rest:List Oper} {K:(Nat->V)->Hp->Prop}
variable {dst:Option Tmp} {d:Nat} {t ty:TypeId} {pos:String} {after:Array Edge} {g:Option (Nat×Bool)}
theorem wz {op:Op}:aQ all sl ⟨dst,op,ty,pos,after,none⟩=some true:=rfl
theorem wg {j:Nat} {f b:Bool} {c:Bool} {o:Nat} {op:Op} (h1:(all[j]?).bind (·.dst)=some o) (h2:sl o = .d (.bool b)) (h:(b==f)=c):aQ all sl ⟨dst,op,ty,pos,after,some (j,f)⟩=some c:=by
 subst h;simp only [aQ,h1,h2]
theorem wa {j:Nat} {f b:Bool} {c:Bool} {o:Nat} {op:Op} (h1:(all[j]?).bind (·.dst)=some o:=by rfl) (h2:sl o = .d (.bool b):=by rfl) (h:(b==f)=c:=by rfl):aQ all sl ⟨dst,op,ty,pos,after,some (j,f)⟩=some c:=wg h1 h2 h
theorem wn {j:Nat} {f:Bool} {h:Nat} {op:Op} (h1:(all[j]?).bind (·.dst)=some h) (h2:sl h = .none):aQ all sl ⟨dst,op,ty,pos,after,some (j,f)⟩=some false:=by
 simp only [aQ,h1,h2]
def Fs (C:Cfg) (sl:Nat->V):Op->Option V
 | .move x | .assign x=>some (ev sl x)
 | .pick c a b=>Uh (ev sl c) (ev sl a) (ev sl b)
 | .nilCheck x=>Bz (ev sl x)
 | .binOp op t x y _=>DY C.P op t x y (ev sl x) (ev sl y)
 | .unOp op _ x=>unF op (ev sl x)
 | .convert s t x=>zI C.P s t (ev sl x)
 | .makeFunc (.func f) first h=>bif Nat.beq first.size 0 then some (.fn f (h.toList.map (ev sl)))else none
 | .slice t x lo hi mx=>mo C.P t (ev sl x) (lo.map (ev sl)) (hi.map (ev sl)) (mx.map (ev sl))
 | .field t x f=>KQ C.P t (ev sl x) f
 | .index t x i=>Ah C.P t (ev sl x) (ev sl i)
 | .extract x i=>DJ (ev sl x) i
 | .build t parts=>bif (parts.toList.map λp=>(p.1,ev sl p.2)).all (λp=>(bH p.2).all kW)then KG C.P t (parts.toList.map λp=>(p.1,ev sl p.2))else none
 | _=>none
theorem TU {op:Op} {v:V} (h:Fs C sl op=some v) (S:Store) (tk:Nat) (A:Eff->Prop) (B:A ⟨[],[],v⟩):opD C ⟨dst,op,ty,pos,after,g⟩ sl S tk A:=by
 have fin:(∀c,op ≠ .call c)->ry C ⟨dst,op,ty,pos,after,g⟩ sl S tk=(Fs C sl op).bind gM->opD C ⟨dst,op,ty,pos,after,g⟩ sl S tk A:=by
  intro hc e
  have e':ry C ⟨dst,op,ty,pos,after,g⟩ sl S tk=some ⟨[],[],v⟩:=by rw [e,h];rfl
  unfold opD
  split
  ·rename_i c o;exact absurd o (hc c)
  ·rw [e'];exact B
 have j:(∀c,op ≠ .call c)->(∃b,ry C ⟨dst,op,ty,pos,after,g⟩ sl S tk=orE ((Fs C sl op).bind gM) b)->opD C ⟨dst,op,ty,pos,after,g⟩ sl S tk A:=by
  intro hc ⟨b,e⟩
  have e':ry C ⟨dst,op,ty,pos,after,g⟩ sl S tk=some ⟨[],[],v⟩:=by rw [e,h];rfl
  unfold opD
  split
  ·rename_i c o;exact absurd o (hc c)
  ·rw [e'];exact B
 cases op <;> first | (refine fin (λc e=>by cases e) ?_;rfl) | (cases h;done) | skip
 case convert s t x=>exact j (λc e=>by cases e) ⟨uL C.P s t S (ev sl x),rfl⟩
 case slice t x lo hi mx=>exact j (λc e=>by cases e) ⟨nS C.P t S (ev sl x) (lo.map (ev sl)) (hi.map (ev sl)) (mx.map (ev sl)),rfl⟩
 case build t parts =>
  refine fin (λc e=>by cases e) ?_
  simp only [Fs]at h ⊢
  simp only [ry]
  cases hb:(parts.toList.map λp=>(p.1,ev sl p.2)).all (λp=>(bH p.2).all kW)with
  | true=>simp only [cond_true]
  | false=>simp only [hb,cond_false]at h;cases h
 case makeFunc fn first captured =>
  cases fn with
  | func f =>
   refine fin (λc e=>by cases e) ?_
   simp only [Fs]at h ⊢
   simp only [ry]
   cases hb:Nat.beq first.size 0 with
   | true=>simp only [cond_true];rfl
   | false=>simp only [hb,cond_false]at h;cases h
  | _=>cases h
theorem aL {op:Op} (v:V) (o:aQ all sl ⟨dst,op,ty,pos,after,g⟩=some true) (j:Fs C sl op=some v)
  (h:aZ q C all K rest (dI sl dst v) H):aZ q C all K (⟨dst,op,ty,pos,after,g⟩::rest) sl H :=
 nW o (λS tk f _ A=>TU j S tk f (A _ rfl rfl rfl)) h
theorem aH {x:Operand} {c b:Bool} (j:ev sl x = .d (.bool c)) (hc:c=b) (f:aQ all sl ⟨dst,.move x,ty,pos,after,g⟩=some true)
  (h:aZ q C all K rest (dI sl dst (vB b)) H):aZ q C all K (⟨dst,.move x,ty,pos,after,g⟩::rest) sl H :=
 aL (vB b) f (by show some (ev sl x)=_;rw [j,hc]) h
end
end Go.Eng

/-
  THE ENGINE: the rules for operations over memory.
-/
namespace Go.Eng
set_option linter.unusedSectionVars false
variable [DM]
set_option linter.unusedVariables false
section
variable {C:Cfg} {sl:Nat->V} {H:Hp} {q:Qm} {all rest:List Oper} {K:(Nat->V)->Hp->Prop}
variable {dst:Option Tmp} {d:Nat} {t ty:TypeId} {pos:String} {after:Array Edge} {g:Option (Nat×Bool)}
theorem AgR.get {S:Store} {tk:Nat} {l:List Oper} (f:AgR H S tk l) {i:Nat} {n:Nm} {b:Box} (h:H[i]? = some (n,some b)):S n=some b :=
  (f.at_ _ (List.mem_of_getElem? h)).2 b rfl
theorem AgR.set {S:Store} {tk:Nat} {l:List Oper} (o:AgR H S tk l) {i:Nat} {n:Nm} {B b:Option Box} {b':Option Box} (h:H[i]? = some (n,B)) (hb:∀x,b=some x->b'=some x):AgR (H.set i (n,b)) (supd S n b') tk l:=by
  have hi:i<H.length:=by
    have:=List.getElem?_eq_some_iff.1 h
    exact this.1
  have he:H[i]=(n,B):=by have:=List.getElem?_eq_some_iff.1 h;exact this.2
  have F:(H.set i (n,b)).map (·.1)=H.map (·.1):=by
    apply List.ext_getElem
    · simp
    · intro j h1 h2
      simp only [List.length_map]at h2
      simp only [List.getElem_map,List.getElem_set]
      split
      · rename_i e;subst e;rw [he]
      · rfl
  refine⟨o.pos,by rw [F];exact o.nd,λp I => ?_⟩
  obtain ⟨j,hj,rfl⟩:=List.getElem_of_mem I
  simp only [List.length_set]at hj
  simp only [List.getElem_set]
  split
  · rename_i e;subst e
    have:=o.at_ (n,B) (by rw [<- he];exact List.getElem_mem hi)
    exact⟨this.1,λx A=>by simp only [supd,if_true];exact hb x A⟩
  · rename_i e
    have h1:=o.at_ H[j] (List.getElem_mem hj)
    refine⟨h1.1,λx A => ?_⟩
    have f:H[j].1≠n:=λf=>by
      have:=o.nd
      have h2:(H.map (·.1))[j]'(by simpa using hj)=(H.map (·.1))[i]'(by simpa using hi):=by simp [he,f]
      exact e (nQ o.nd i j (by simpa using hi) (by simpa using hj) h2.symm)
    simp only [supd,if_neg f]
    exact h1.2 x A
theorem new_ne {S:Store} {tk:Nat} {o:Oper} (ok:uT C (o::rest)) (B:AgR H S tk (o::rest)) (h:o.dst=some d) (j:Nat):∀p∈H,p.1≠(d+100000*j,tk):=λp F e=>by
  have f:=(qp (ok.2 o (by simp)) h).2
  rcases (B.at_ p F).1 with h1|⟨_,h1⟩
  · rw [e]at h1;exact Nat.lt_irrefl _ h1
  · have:=h1 o (by simp)
    rw [e,h]at this
    have A:(d+100000*j) % 100000=d:=(Nat.add_mul_mod_self_left d 100000 j).trans (Nat.mod_eq_of_lt f)
    simp only [A]at this
    exact this rfl
theorem AgR.new {S:Store} {tk:Nat} {o:Oper} (ok:uT C (o::rest)) (A:AgR H S tk (o::rest)) (J:o.dst=some d) (b:Box):AgR (H++[((d,tk),some b)]) (supd S (d,tk) (some b)) tk rest:=by
  have h:=new_ne ok A J 0
  simp only [Nat.mul_zero,Nat.add_zero]at h
  have F:=(qp (ok.2 o (by simp)) J).2
  refine⟨A.pos,?_,λp f => ?_⟩
  · rw [List.map_append,List.nodup_append]
    refine⟨A.nd,by simp,λa M b hb => ?_⟩
    simp only [List.map_cons,List.map_nil,List.mem_singleton]at hb
    obtain ⟨p,f,rfl⟩:=List.mem_map.1 M
    rw [hb]
    exact h p f
  · rcases List.mem_append.1 f with f | f
    · have:=A.tail.at_ p f
      exact⟨this.1,λx B=>by simp only [supd,if_neg (h p f)];exact this.2 x B⟩
    · simp only [List.mem_singleton]at f
      subst f
      refine⟨.inr ⟨rfl,λL I j => ?_⟩,λx B=>by simp only [supd,if_true];exact B⟩
      simp only [Nat.mod_eq_of_lt F]at j
      have h1:=ok.1
      simp only [mU,J,Bool.and_eq_true]at h1
      have h2:=List.all_eq_true.1 h1.1 L I
      simp only [j,Nat.beq_refl]at h2
      cases h2
theorem vH {o:Oper} {d:Nat} (O:o.dst=some d) (k:Nat) (T:List Nm) (Z:q=none\/Nat.beq all.length (k+(rest.length+1))=true) (W:∀S tk,AgR H S tk (o::rest)->okQ q all k T true) (R:∀m∈T,m∈H.map (·.1)) (hw:aQ all sl o=some true)
    (M:∀S tk (L:Eff->Prop),uT C (o::rest)->AgR H S tk (o::rest) ->
      (∀A J m,(m=(d,tk)\/m∈T)->((∀x∈A.req,x.1∈T++[m])/\∀x∈A.upd,x.1∈T++[m])->AgR J (fo S A.upd) tk rest->aZ (pO q k (T++[m]) true) C all K rest (dI sl o.dst A.val) J->L A)->opD C o sl S tk L) :
    aZ q C all K (o::rest) sl H :=
  Np k true Z hw (λS tk L ok I hO hK=>by
    have N:=(qp (ok.2 o (by simp)) O).2
    have F:¬LJ tk (o::rest) (d,tk):=by
      rintro (h|⟨_,h⟩)
      · exact Nat.lt_irrefl _ h
      · have:=h o (by simp)
        simp only [O,Nat.mod_eq_of_lt N,ne_eq,not_true]at this
    refine M S tk L ok I (λA J m j h1 h3 h4=>hK A J (T++[m]) ?_ (λm' f => ?_) h1 (λe=>by cases e) h3 h4)
    · rcases j with rfl | j
      · exact okQ_add (W S tk I) hO F
      · exact Lc (λx B=>(List.mem_append.1 B).elim id (λB=>by rw [List.mem_singleton]at B;rw [B];exact j)) (W S tk I)
    · have Y:∀x∈T,LJ tk rest x:=λx B=>(I.old (R x B)).tail
      rcases List.mem_append.1 f with f|f
      · exact Y _ f
      · rw [List.mem_singleton]at f;subst f
        rcases j with rfl|j
        · exact ((I.new ok O (.cells 0 [])).at_ ((d,tk),some (.cells 0 [])) (by simp)).1
        · exact Y _ j)
theorem zq {b:Builtin} {args:Array Operand} {f:Array TypeId} {S:Store} {tk:Nat} {j:Eff->Prop} {A:Eff} (h:xc C.P b f.toList (args.toList.map (ev sl)) S dst tk=some A) (o:j A) :
    opD C ⟨dst,.call ⟨.builtin b,args,f⟩,ty,pos,after,g⟩ sl S tk j:=by
  show (match ry C _ sl S tk with | some A=>j A | none=>False)
  have e:ry C ⟨dst,.call ⟨.builtin b,args,f⟩,ty,pos,after,g⟩ sl S tk=some A:=h
  rw [e];exact o
theorem Eo {x:Operand} {v:V} (hl:FM C.P t (ev sl x)=some v) (j:aQ all sl ⟨dst,.call ⟨.builtin .len,#[x],#[t]⟩,ty,pos,after,g⟩=some true) (h:aZ q C all K rest (dI sl dst v) H) :
    aZ q C all K (⟨dst,.call ⟨.builtin .len,#[x],#[t]⟩,ty,pos,after,g⟩::rest) sl H :=
  nW j (λS tk B _ o=>zq (A:=⟨[],[],v⟩) (by
    have f:Ir (ev sl x)=false:=by
      cases hx:ev sl x with
      | map n=>rw [hx]at hl;unfold FM at hl;split at hl <;> first | (cases hl;done) | simp_all
      | _=>rfl
    show (bif Ir (ev sl x)then Bf C.P t S (ev sl x)else (FM C.P t (ev sl x)).bind gM)=_
    rw [f,cond_false,hl];rfl) (o _ rfl rfl rfl)) h
theorem bA {α:Type} {enc:α->List D} {xs:List α} {x:Operand} {e:TypeId} (o:C.P.underlying t=some (.slice e)) (f:ev sl x=vL enc xs) (j:aQ all sl ⟨dst,.call ⟨.builtin .len,#[x],#[t]⟩,ty,pos,after,g⟩=some true)
    (h:aZ q C all K rest (dI sl dst (vI xs.length)) H):aZ q C all K (⟨dst,.call ⟨.builtin .len,#[x],#[t]⟩,ty,pos,after,g⟩::rest) sl H :=
  Eo (by rw [f];simp only [FM,o,List.length_map]) j h
theorem Cj {s:ByteArray} {x:Operand} (o:C.P.underlying t=some .string) (j:ev sl x=vS s) (f:aQ all sl ⟨dst,.call ⟨.builtin .len,#[x],#[t]⟩,ty,pos,after,g⟩=some true)
    (h:aZ q C all K rest (dI sl dst (vI s.size)) H):aZ q C all K (⟨dst,.call ⟨.builtin .len,#[x],#[t]⟩,ty,pos,after,g⟩::rest) sl H :=
  Eo (by rw [j];simp only [FM,o]) f h
theorem R7 {α:Type} {n:Nm} {sz:Nat} {xs:List α} {x:Operand} {e:TypeId} (o:C.P.underlying t=some (.slice e)) (f:ev sl x=vV n sz xs) (j:aQ all sl ⟨dst,.call ⟨.builtin .len,#[x],#[t]⟩,ty,pos,after,g⟩=some true)
    (h:aZ q C all K rest (dI sl dst (vI xs.length)) H):aZ q C all K (⟨dst,.call ⟨.builtin .len,#[x],#[t]⟩,ty,pos,after,g⟩::rest) sl H :=
  Eo (by rw [f];simp only [FM,o]) j h
theorem CB {α:Type} {n:Nm} {sz:Nat} {xs:List α} {x:Operand} {e:TypeId} (o:C.P.underlying t=some (.slice e)) (f:ev sl x=gV n sz xs) (j:aQ all sl ⟨dst,.call ⟨.builtin .len,#[x],#[t]⟩,ty,pos,after,g⟩=some true)
    (h:aZ q C all K rest (dI sl dst (vI xs.length)) H):aZ q C all K (⟨dst,.call ⟨.builtin .len,#[x],#[t]⟩,ty,pos,after,g⟩::rest) sl H :=
  Eo (by rw [f];cases xs <;> simp [FM,o,gV]) j h
theorem uE {b:Builtin} {args:Array Operand} {f:Array TypeId} (v:V) (j:xc C.P b f.toList (args.toList.map (ev sl)) (λ_=>none) none 0=some ⟨[],[],v⟩) (hb:b = .min\/b = .max) (o:aQ all sl ⟨dst,.call ⟨.builtin b,args,f⟩,ty,pos,after,g⟩=some true)
    (h:aZ q C all K rest (dI sl dst v) H):aZ q C all K (⟨dst,.call ⟨.builtin b,args,f⟩,ty,pos,after,g⟩::rest) sl H :=
  nW o (λS tk F _ B=>zq (A:=⟨[],[],v⟩) (by rcases hb with rfl | rfl <;> exact j) (B _ rfl rfl rfl)) h
theorem jb {op:Op} {S:Store} {tk:Nat} {j:Eff->Prop} {A:Eff} (hc:∀c,op ≠ .call c) (h:ry C ⟨dst,op,ty,pos,after,g⟩ sl S tk=some A) (o:j A):opD C ⟨dst,op,ty,pos,after,g⟩ sl S tk j:=by
  unfold opD
  split
  · rename_i c f;exact absurd f (hc c)
  · rw [h];exact o
theorem orE_l {a b:Option Eff} {A:Eff} (h:a=some A):orE a b=some A:=by rw [h];rfl
theorem dC {α:Type} {enc:α->List D} {xs:List α} {x i:Operand} {k:IntKind} {n:Int} {y:α} {size:Nat} (F:(bG C.P t).bind (szT C.P)=some size) (o:ev sl x=vL enc xs) (hi:ev sl i = .d (.int k n)) (f:idx xs n=some y) (hl:(enc y).length=size)
    (B:aQ all sl ⟨dst,.indexAddr t x i,ty,pos,after,g⟩=some true) (h:aZ q C all K rest (dI sl dst (.d (.ptr (enc y)))) H):aZ q C all K (⟨dst,.indexAddr t x i,ty,pos,after,g⟩::rest) sl H :=
  nW B (λS tk J _ I=>jb (A:=⟨[],[],.d (.ptr (enc y))⟩) (λc e=>by cases e) (by
    show orE (kr C.P t (ev sl x) (ev sl i)) _=_
    refine orE_l ?_
    unfold idx at f
    split at f
    · rename_i j
      rw [o,hi,Ch F,decide_eq_true j]
      exact idxB_sl (by rw [List.getElem?_map,f];rfl) hl
    · cases f) (I _ rfl rfl rfl)) h
theorem zO {x i:Operand} {k:IntKind} {n:Int} {nm:Nm} {j len size:Nat} (F:(bG C.P t).bind (szT C.P)=some size) (o:ev sl x = .vs nm size j len) (hi:ev sl i = .d (.int k n)) (f:0<=n) (h1:n.toNat<len)
    (B:aQ all sl ⟨dst,.indexAddr t x i,ty,pos,after,g⟩=some true) (h:aZ q C all K rest (dI sl dst (.ref nm (j+n.toNat) 0)) H):aZ q C all K (⟨dst,.indexAddr t x i,ty,pos,after,g⟩::rest) sl H :=
  nW B (λS tk J _ I=>jb (A:=⟨[],[],.ref nm (j+n.toNat) 0⟩) (λc e=>by cases e) (by
    show orE (kr C.P t (ev sl x) (ev sl i)) _=_
    refine orE_l ?_
    rw [o,hi,Ch F,decide_eq_true f]
    exact idxB_vs h1) (I _ rfl rfl rfl)) h
theorem qh {x:Operand} {f off s:Nat} {cs:List D} (pl:bB C.P t f=some (off,s+1)) (o:ev sl x = .d (.ptr cs)) (v:List D) (F:cs.drop off=v) (j:Nat.ble off cs.length=true)
    (B:aQ all sl ⟨dst,.fieldAddr t x f,ty,pos,after,g⟩=some true) (h:aZ q C all K rest (dI sl dst (.d (.ptr v))) H):aZ q C all K (⟨dst,.fieldAddr t x f,ty,pos,after,g⟩::rest) sl H :=
  nW B (λS tk J _ I=>jb (A:=⟨[],[],.d (.ptr v)⟩) (λc e=>by cases e) (by
    show kN C.P t (ev sl x) f=_
    rw [o,FE pl,j,F];rfl) (I _ rfl rfl rfl)) h
theorem aK {x:Operand} {f off s:Nat} {n:Nm} {i j:Nat} (pl:bB C.P t f=some (off,s+1)) (B:ev sl x = .ref n i j) (o:Nat) (hj:j+off=o)
    (F:aQ all sl ⟨dst,.fieldAddr t x f,ty,pos,after,g⟩=some true) (h:aZ q C all K rest (dI sl dst (.ref n i o)) H):aZ q C all K (⟨dst,.fieldAddr t x f,ty,pos,after,g⟩::rest) sl H :=
  nW F (λS tk J _ I=>jb (A:=⟨[],[],.ref n i o⟩) (λc e=>by cases e) (by
    show kN C.P t (ev sl x) f=_
    rw [B,G7 pl,hj]) (I _ rfl rfl rfl)) h
theorem bE {x:Operand} {size:Nat} {agg:Bool} {cs:List D} (hs:szT C.P t=some size) (f:bU C.P t=agg) (j:ev sl x = .d (.ptr cs)) (v:V) (o:rdD agg size cs=some v)
    (B:aQ all sl ⟨dst,.load t x,ty,pos,after,g⟩=some true) (h:aZ q C all K rest (dI sl dst v) H):aZ q C all K (⟨dst,.load t x,ty,pos,after,g⟩::rest) sl H :=
  nW B (λS tk I _ F=>jb (A:=⟨[],[],v⟩) (λc e=>by cases e) (by
    show vN C.P t S (ev sl x)=_
    rw [j,Oq hs f,o];rfl) (F _ rfl rfl rfl)) h
theorem aI {x:Operand} {size:Nat} {agg:Bool} {n:Nm} {i j sz:Nat} {cs:List V} (p k:Nat) (I:q=none\/Nat.beq all.length (p+(rest.length+1))=true) (N:∀S tk,AgR H S tk (⟨dst,.load t x,ty,pos,after,g⟩::rest)->okQ q all p [n] false) (hs:szT C.P t=some size) (J:bU C.P t=agg) (B:ev sl x = .ref n i j) (o:H[k]? = some (n,some (.cells sz cs))) (v:V) (L:rdV agg size (cs.drop (i*sz+j))=some v)
    (F:aQ all sl ⟨dst,.load t x,ty,pos,after,g⟩=some true) (h:aZ (pO q p [n] false) C all K rest (dI sl dst v) H):aZ q C all K (⟨dst,.load t x,ty,pos,after,g⟩::rest) sl H :=
  ol p [n] false I N (wP o) F (λS tk O ok f M=>jb (A:=⟨[(n,.cells sz cs)],[],v⟩) (λc e=>by cases e) (by
    show vN C.P t S (ev sl x)=_
    rw [B,Eh hs J,f.get o]
    simp only [Mj,L,Option.map_some]) (M _ H ⟨by simp,by simp⟩ (λ_=>rfl) f.tail h))
theorem Fy {α:Type} {enc:α->List D} {xs:List α} {y:α} {x:Operand} {size:Nat} {agg:Bool} {n:Nm} {i j sz:Nat} (p k:Nat) (J:q=none\/Nat.beq all.length (p+(rest.length+1))=true) (O:∀S tk,AgR H S tk (⟨dst,.load t x,ty,pos,after,g⟩::rest)->okQ q all p [n] false) (hs:szT C.P t=some size) (L:bU C.P t=agg) (B:ev sl x = .ref n i j) (o:H[k]? = some (n,some (bV sz enc xs))) (F:xs[i]? = some y)
    (v:V) (M:rdD agg size ((enc y).drop j)=some v)
    (I:aQ all sl ⟨dst,.load t x,ty,pos,after,g⟩=some true) (h:aZ (pO q p [n] false) C all K rest (dI sl dst v) H):aZ q C all K (⟨dst,.load t x,ty,pos,after,g⟩::rest) sl H :=
  ol p [n] false J O (wP o) I (λS tk R ok f N=>jb (A:=⟨[(n,bV sz enc xs)],[],v⟩) (λc e=>by cases e) (by
    show vN C.P t S (ev sl x)=_
    rw [B,Eh hs L,f.get o]
    simp only [Mj,List.getElem?_map,F,Option.map_some,M]) (N _ H ⟨by simp,by simp⟩ (λ_=>rfl) f.tail h))
def stC (size:Nat) (cs:List V) (o:Nat) (x:V):Option (List V):=bif Nat.beq (bH x).length size&&Nat.ble (o+size) cs.length&&(bH x).all kW then some (splice cs (bH x) o)else none
def stD (size:Nat) (cs:List D) (o:Nat) (x:V):Option (List D):=match uX (bH x)with
  | some new=>bif Nat.beq new.length size&&Nat.ble (o+size) cs.length&&(bH x).all kW then some (splice cs new o)else none
  | none=>none
theorem jw {x y:Operand} {size:Nat} {n:Nm} {i j sz:Nat} {cs:List V} (p:Nat) (L:q=none\/Nat.beq all.length (p+(rest.length+1))=true) (O:∀S tk,AgR H S tk (⟨dst,.store t x y,ty,pos,after,g⟩::rest)->okQ q all p [n] true) (k:Nat) (hs:szT C.P t=some size) (B:ev sl x = .ref n i j) (F:H[k]? = some (n,some (.cells sz cs))) (f:List V) (o:stC size cs (i*sz+j) (ev sl y)=some f)
    (J:aQ all sl ⟨dst,.store t x y,ty,pos,after,g⟩=some true) (h:aZ (pO q p [n] true) C all K rest (dI sl dst .none) (H.set k (n,some (.cells sz f)))) (N:Nat.blt sz 1048576=true:=by rfl):aZ q C all K (⟨dst,.store t x y,ty,pos,after,g⟩::rest) sl H :=
  ol p [n] true L O (wP F) J (λS tk R ok I M=>jb (A:=⟨[(n,.cells sz cs)],[(n,some (.cells sz f))],.none⟩) (λc e=>by cases e) (by
    show zo C.P t S (ev sl x) (ev sl y)=_
    rw [B,GU hs,I.get F]
    simp only [stC]at o
    simp only [KE]
    cases hb:(Nat.beq (bH (ev sl y)).length size&&Nat.ble (i*sz+j+size) cs.length&&(bH (ev sl y)).all kW)with
    | true=>simp only [hb,N,Bool.and_self,cond_true,so_]at o ⊢;rw [o]
    | false=>simp only [hb,cond_false]at o;cases o) (M _ _ ⟨by simp,by simp⟩ (λe=>by cases e) (I.tail.set F (λx B=>B)) h))
theorem Dw {α:Type} {enc:α->List D} {xs:List α} {e:α} {x y:Operand} {size:Nat} {n:Nm} {i j sz:Nat} (p:Nat) (L:q=none\/Nat.beq all.length (p+(rest.length+1))=true) (N:∀S tk,AgR H S tk (⟨dst,.store t x y,ty,pos,after,g⟩::rest)->okQ q all p [n] true) (k:Nat) (hs:szT C.P t=some size) (o:ev sl x = .ref n i j) (B:H[k]? = some (n,some (bV sz enc xs))) (I:xs[i]? = some e) (e':α) (f:stD size (enc e) j (ev sl y)=some (enc e'))
    (J:aQ all sl ⟨dst,.store t x y,ty,pos,after,g⟩=some true) (h:aZ (pO q p [n] true) C all K rest (dI sl dst .none) (H.set k (n,some (bV sz enc (xs.set i e'))))):aZ q C all K (⟨dst,.store t x y,ty,pos,after,g⟩::rest) sl H :=
  ol p [n] true L N (wP B) J (λS tk O ok F M=>jb (A:=⟨[(n,bV sz enc xs)],[(n,some (bV sz enc (xs.set i e')))],.none⟩) (λc e=>by cases e) (by
    show zo C.P t S (ev sl x) (ev sl y)=_
    rw [o,GU hs,F.get B]
    simp only [stD]at f
    simp only [KE,List.getElem?_map,I,Option.map_some]
    cases hn:uX (bH (ev sl y))with
    | none=>rw [hn]at f;cases f
    | some new =>
      simp only [hn]at f ⊢
      cases hb:(Nat.beq new.length size&&Nat.ble (j+size) (enc e).length&&(bH (ev sl y)).all kW)with
      | true=>simp only [hb,cond_true,so_]at f ⊢;rw [f];simp only [bV,List.map_set]
      | false=>simp only [hb,cond_false]at f;cases f) (M _ _ ⟨by simp,by simp⟩ (λe=>by cases e) (F.tail.set B (λx o=>o)) h))
theorem dA {e:TypeId} {cs:List V} (p:Nat) (J:q=none\/Nat.beq all.length (p+(rest.length+1))=true) (B:zeroCells C.P e=some cs) (ho:cs.all kW=true) (F:aQ all sl ⟨some d,.alloc e,ty,pos,after,g⟩=some true)
    (h:∀n:Nm,aZ (pO q p [n] true) C all K rest (upd sl d (.ref n 0 0)) (H++[(n,some (.cells cs.length cs))])) (hb:BP C.P e=none:=by kernel_rfl) (j:C.vm.contains d=false:=by rfl) (f:Nat.blt cs.length 1048576=true:=by rfl):aZ q C all K (⟨some d,.alloc e,ty,pos,after,g⟩::rest) sl H :=
  vH rfl p [] J (λ_ _ _=>yM) (λm o=>by cases o) F (λS tk M ok I L=>jb (A:=⟨[],[((d,tk),some (.cells cs.length cs))],.ref (d,tk) 0 0⟩) (λc e=>by cases e) (by
    show (bif (BP C.P e).isSome then xD C.P e d tk else bif C.vm.contains d then zb C.P e d tk else Ae C.P e d tk)=_
    rw [hb,j]
    simp only [Option.isSome_none,cond_false,Ae,B,ho,f,Bool.and_self,cond_true]) (L _ _ _ (.inl rfl) ⟨by simp,by simp⟩ (I.new ok rfl _) (h (d,tk))))
theorem ib {e:TypeId} {x:Operand} (p:Nat) (I:q=none\/Nat.beq all.length (p+(rest.length+1))=true) (cs:List V) (o:bH (ev sl x)=cs) (ho:cs.all kW=true) (B:aQ all sl ⟨some d,.box e x,ty,pos,after,g⟩=some true)
    (h:∀n:Nm,aZ (pO q p [n] true) C all K rest (upd sl d (.ref n 0 0)) (H++[(n,some (.cells cs.length cs))])) (f:Nat.blt cs.length 1048576=true:=by rfl):aZ q C all K (⟨some d,.box e x,ty,pos,after,g⟩::rest) sl H :=
  vH rfl p [] I (λ_ _ _=>yM) (λm j=>by cases j) B (λS tk L ok F J=>jb (A:=⟨[],[((d,tk),some (.cells cs.length cs))],.ref (d,tk) 0 0⟩) (λc e=>by cases e) (by
    show Oe (ev sl x) d tk=_
    simp only [Oe,o,ho,f,Bool.and_self,cond_true]) (J _ _ _ (.inl rfl) ⟨by simp,by simp⟩ (F.new ok rfl _) (h (d,tk))))
def co0 (v:V):V:=co (λ_=>none) v
theorem co_0 {S:Store} {v:V} (h:frz v=[]):co S v=co0 v :=
  (KW (S:=S) (S':=λ_=>none) (v:=v) (λn f=>by rw [h]at f;cases f)).symm
theorem ww {α β:Type} {f:α->List β}:∀{l:List α},l.flatMap f=[]->∀x∈l,f x=[]
  | a::l,h,x,j=>by
    simp only [List.flatMap_cons,List.append_eq_nil_iff]at h
    rcases List.mem_cons.1 j with rfl|j
    · exact h.1
    · exact ww h.2 x j
def TD (sl:Nat->V) (parts:List (Nat×Operand)):List (Nat×V):=parts.map λp=>(p.1,co0 (ev sl p.2))
theorem Ua {S:Store} {tk len size:Nat} {parts:List (Nat×Operand)} {xs:List (List D)} (o:(bG C.P t).bind (szT C.P)=some size) (A:((bG C.P t).bind (zeroCells C.P)).isSome=true)
    (h:(parts.flatMap λp=>frz (ev sl p.2))=[]) (B:wB size 0 (TD sl parts)=some xs) (hl:Nat.beq parts.length len=true) (f:Nat.ble (len*size) 16777216=true) :
    Lm C t len (parts.map λp=>(p.1,ev sl p.2)) S d tk=some (bif C.vm.contains d then⟨[],[((d,tk),some (.vec size xs))],.vs (d,tk) size 0 len⟩else⟨[],[],bif Nat.beq len 0 then .nil else .d (.sl xs)⟩):=by
  have h1:((parts.map λp=>(p.1,ev sl p.2)).flatMap λp=>frz p.2)=[]:=by
    rw [List.flatMap_map];exact h
  have h2:((parts.map λp=>(p.1,ev sl p.2)).map λp=>(p.1,co S p.2))=TD sl parts:=by
    rw [List.map_map]
    exact List.map_congr_left (λp j=>by simp only [Function.comp];rw [co_0 (ww h p j)])
  have F:Nat.beq ((TD sl parts).length) len=true:=by simp only [TD,List.length_map];exact hl
  simp only [Lm,h1,List.all_nil,cond_true,freezeAll,ig,fo,h2,uw,o,B,F,f,A,Bool.and_self]
  cases C.vm.contains d <;> cases Nat.beq len 0 <;> simp [gM,ic]
theorem eu {len size:Nat} {parts:List (Nat×Operand)} (xs:List (List D)) (J:(bG C.P t).bind (szT C.P)=some size) (o:((bG C.P t).bind (zeroCells C.P)).isSome=true)
    (I:(parts.flatMap λp=>frz (ev sl p.2))=[]) (B:wB size 0 (TD sl parts)=some xs) (hl:Nat.beq parts.length len=true) (f:Nat.ble (len*size) 16777216=true) (j:(C.vm.contains d||Nat.beq len 0)=false)
    (F:aQ all sl ⟨some d,.buildSlice t len parts.toArray,ty,pos,after,g⟩=some true) (h:aZ q C all K rest (upd sl d (.d (.sl xs))) H):aZ q C all K (⟨some d,.buildSlice t len parts.toArray,ty,pos,after,g⟩::rest) sl H :=
  nW F (λS tk M _ L=>jb (A:=⟨[],[],.d (.sl xs)⟩) (λc e=>by cases e) (by
    show Lm C t len (parts.toArray.toList.map λp=>(p.1,ev sl p.2)) S d tk=_
    rw [List.toList_toArray,Ua J o I B hl f]
    simp only [Bool.or_eq_false_iff]at j
    rw [j.1,j.2];rfl) (L _ rfl rfl rfl)) h
theorem h_lit0 {size:Nat} (f:(bG C.P t).bind (szT C.P)=some size) (j:((bG C.P t).bind (zeroCells C.P)).isSome=true) (o:C.vm.contains d=false)
    (B:aQ all sl ⟨some d,.buildSlice t 0 #[],ty,pos,after,g⟩=some true) (h:aZ q C all K rest (upd sl d .nil) H):aZ q C all K (⟨some d,.buildSlice t 0 #[],ty,pos,after,g⟩::rest) sl H :=
  nW B (λS tk I _ F=>jb (A:=⟨[],[],.nil⟩) (λc e=>by cases e) (by
    show Lm C t 0 (([]:List (Nat×Operand)).map λp=>(p.1,ev sl p.2)) S d tk=_
    rw [Ua (parts:=[]) f j rfl rfl rfl (by rw [Nat.zero_mul];rfl),o];rfl) (F _ rfl rfl rfl)) h
end
end Go.Eng

/-
  THE ENGINE: append, calls, a function's end.
-/
namespace Go.Eng
set_option linter.unusedSectionVars false
variable [DM]
set_option linter.unusedVariables false
set_option linter.unusedSimpArgs false
section
variable {C:Cfg} {sl:Nat->V} {H:Hp} {q:Qm} {all rest:List Oper} {K:(Nat->V)->Hp->Prop}
variable {dst:Option Tmp} {d:Nat} {t ty:TypeId} {pos:String} {after:Array Edge} {g:Option (Nat×Bool)}
theorem Lx {S:Store} {tk:Nat} {l:List Oper} (f:AgR H S tk l) {i:Nat} {n:Nm} {b b':Option Box} (h:H[i]? = some (n,b)) (hb:∀x,b'=some x->S n=some x):AgR (H.set i (n,b')) S tk l:=by
 have hi:i<H.length:=(List.getElem?_eq_some_iff.1 h).1
 have he:H[i]=(n,b):=(List.getElem?_eq_some_iff.1 h).2
 have o:(H.set i (n,b')).map (·.1)=H.map (·.1):=by
  apply List.ext_getElem
  ·simp
  ·intro j h1 h2
   simp only [List.getElem_map,List.getElem_set]
   split
   ·rename_i e;subst e;rw [he]
   ·rfl
 refine⟨f.pos,by rw [o];exact f.nd,λp A => ?_⟩
 obtain ⟨j,hj,rfl⟩:=List.getElem_of_mem A
 simp only [List.length_set]at hj
 simp only [List.getElem_set]
 split
 ·rename_i e;subst e
  have:=f.at_ (n,b) (by rw [<- he];exact List.getElem_mem hi)
  exact⟨this.1,hb⟩
 ·exact f.at_ H[j] (List.getElem_mem hj)
theorem AgR.swap {S:Store} {tk:Nat} {o:Oper} (ok:uT C (o::rest)) (B:AgR H S tk (o::rest)) (J:o.dst=some d) {i:Nat} {n:Nm} {O:Option Box} (h:H[i]? = some (n,O)) (b:Option Box) (S':Store)
  (Z:∀m,m≠n->m≠(d,tk)->S' m=S m) (hb:∀x,b=some x->S' (d,tk)=some x):AgR (H.set i ((d,tk),b)) S' tk rest:=by
 have f:=new_ne ok B J 0
 simp only [Nat.mul_zero,Nat.add_zero]at f
 have M:=(qp (ok.2 o (by simp)) J).2
 have hi:i<H.length:=(List.getElem?_eq_some_iff.1 h).1
 have he:H[i]=(n,O):=(List.getElem?_eq_some_iff.1 h).2
 have A:∀j (hj:j<H.length),j≠i->H[j].1≠n:=λj hj hji e=>hji (nQ B.nd j i (by simpa using hj) (by simpa using hi) (by simp [he,e]))
 have Y:(H.set i ((d,tk),b)).map (·.1)=(H.map (·.1)).set i (d,tk):=by rw [List.map_set]
 refine⟨B.pos,?_,λp R => ?_⟩
 ·rw [Y]
  refine List.pairwise_iff_getElem.2 (λa c N hc L => ?_)
  simp only [List.length_set,List.length_map]at N hc
  have h1:=(List.pairwise_iff_getElem.1 B.nd) a c (by simpa using N) (by simpa using hc) L
  simp only [List.getElem_map]at h1
  simp only [List.getElem_set,List.getElem_map]
  split
  ·rw [if_neg (by omega)]
   exact (f _ (List.getElem_mem hc)).symm
  ·split
   ·exact f _ (List.getElem_mem N)
   ·exact h1
 ·obtain ⟨j,hj,rfl⟩:=List.getElem_of_mem R
  simp only [List.length_set]at hj
  simp only [List.getElem_set]
  split
  ·refine⟨.inr ⟨rfl,λW I F => ?_⟩,hb⟩
   simp only [Nat.mod_eq_of_lt M]at F
   have h1:=ok.1
   simp only [mU,J,Bool.and_eq_true]at h1
   have h2:=List.all_eq_true.1 h1.1 W I
   simp only [F,Nat.beq_refl]at h2
   cases h2
  ·rename_i e
   have h1:=B.tail.at_ H[j] (List.getElem_mem hj)
   exact⟨h1.1,λx T=>by rw [Z _ (A j hj (Ne.symm e)) (f _ (List.getElem_mem hj))];exact h1.2 x T⟩
def kv {α:Type} (xs ys:List α):Option (List α):=if xs.length+ys.length<=1000000000 then some (xs++ys)else none
def sJ (x y:ByteArray):Option ByteArray:=if ((x.size+y.size:Nat):Int)>IntKind.i64.max then none else some (x++y)
theorem AZ {P:Program} {t e:TypeId} (h:bG P t=some e):qb P t=false:=by
 have:=lX h
 unfold qb;rw [this]
theorem Dc {α:Type} {enc:α->List D} {sz:Nat} (h:∀y,(enc y).length=sz) (ys:List α):(ys.map enc).all (λx=>Nat.beq x.length sz)=true:=by
 rw [List.all_eq_true]
 intro x f
 obtain ⟨y,_,rfl⟩:=List.mem_map.1 f
 rw [h y];exact Nat.beq_refl sz
section app
variable {α:Type} {enc:α->List D} {xs ys zs:List α} {x y:Operand} {t' e e':TypeId} {sz bytes i:Nat} {n:Nm} {z:List V}
theorem h_appgX (p:Nat) (Z:q=none\/Nat.beq all.length (p+(rest.length+1))=true) (hf:∀S tk,AgR H S tk (⟨some d,.call ⟨.builtin .append,#[x,y],#[t,t']⟩,ty,pos,after,g⟩::rest)->okQ q all p [n] true) (he:bG C.P t=some e) (B:N9 C.P t'=some ()) (hni:qb C.P t'=false) (hs:szT C.P e=some sz) (W:zeroCells C.P e=some z) (hzl:z.length=sz) (hp:0<sz) (hby:fI C.P e=bytes) (hbb:bytes<=100000)
  (T:∀y,(enc y).length=sz) (f:ev sl x=gV n sz xs) (N:H[i]? = some (n,gB sz enc xs)) (Y:∀S,nD S sz (ev sl y)=some (ys.map enc,[])) (M:kv xs ys=some zs)
  (hw:aQ all sl ⟨some d,.call ⟨.builtin .append,#[x,y],#[t,t']⟩,ty,pos,after,g⟩=some true)
  (h:∀n':Nm,aZ (pO q p [n,n'] true) C all K rest (upd sl d (gV n' sz zs)) (H.set i (n',gB sz enc zs))):aZ q C all K (⟨some d,.call ⟨.builtin .append,#[x,y],#[t,t']⟩,ty,pos,after,g⟩::rest) sl H:=by
 unfold kv at M
 split at M
 case isFalse=>cases M
 rename_i L
 simp only [so_]at M
 subst M
 refine vH rfl p [n] Z hf (wP N) hw (λS tk K' ok R O => ?_)
 have hall:=Dc (sz:=sz) T ys
 have I:z.length=sz/\0<sz:=⟨hzl,hp⟩
 have F:∀m,m<=1000000000->(2*m+192)*fI C.P e<=2 ^ 48/\m<=2 ^ 48:=λm hm=>by
  rw [hby]
  have:=Nat.mul_le_mul (show 2*m+192<=2000000192 by omega) hbb
  exact⟨by omega,by omega⟩
 have run:∀{A:Eff},mf C.P t t' S (ev sl x) (ev sl y) d tk=some A->K' A->opD C ⟨some d,.call ⟨.builtin .append,#[x,y],#[t,t']⟩,ty,pos,after,g⟩ sl S tk K':=λM O=>zq (by show (bif qb C.P t' then _ else _)=_;rw [hni,cond_false];exact M) O
 cases xs with
 | nil =>
  have j:ev sl x = .nil:=f
  cases ys with
  | nil =>
   refine run (A:=⟨[],[],.nil⟩) ?_ (O _ (H.set i (n,gB sz enc ([]:List α))) n (.inr (by simp)) ⟨by simp,by simp⟩ (by
    have:=Lx R N (b':=gB sz enc ([]:List α)) (λx f=>by cases f)
    exact this.tail) (h n))
   rw [j]
   simp only [mf,he,B,hs,W,if_pos I,Y,List.map_nil,List.map_cons,if_true]
   rw [if_pos (F _ (by simp))]
   try rfl
  | cons J ys =>
   refine run (A:=⟨[],[((d,tk),some (.vec sz ((J::ys).map enc)))],.vs (d,tk) sz 0 (J::ys).length⟩) ?_ (O _ (H.set i ((d,tk),gB sz enc (J::ys))) (d,tk) (.inl rfl) ⟨by simp,by simp⟩ ?_ (h (d,tk)))
   ·rw [j]
    simp only [mf,he,B,hs,W,if_pos I,Y,List.map_nil,List.map_cons,if_true]
    rw [if_pos (F _ (by simpa using L))]
    simp
   ·exact R.swap ok rfl N _ _ (λm h1 h2=>by simp [fo,supd,h2]) (λx f=>by simp only [fo,supd,if_true];exact f)
 | cons o xs =>
  have j:ev sl x = .vs n sz 0 (o::xs).length:=f
  have hS:S n=some (.vec sz ((o::xs).map enc)):=R.get N
  cases ys with
  | nil =>
   refine run (A:=⟨[(n,.vec sz ((o::xs).map enc))],[],.vs n sz 0 (o::xs).length⟩) ?_ (O _ (H.set i (n,gB sz enc ((o::xs)++[]))) n (.inr (by simp)) ⟨by simp,by simp⟩ (by
    have:=Lx R N (b':=gB sz enc ((o::xs)++[])) (λx f=>by simp only [List.append_nil]at f;rw [hS];exact f)
    exact this.tail) (by have:=h n;rw [List.append_nil]at this;rw [List.append_nil];exact this))
   rw [j]
   simp only [mf,he,B,hs,W,if_pos I,Y,List.map_nil,List.map_cons,if_true,hS]
   rw [if_pos ⟨trivial,by simp,F _ (by simpa using L)⟩]
   try rfl
  | cons J ys =>
   refine run (A:=⟨[(n,.vec sz ((o::xs).map enc))],[(n,none),((d,tk),some (.vec sz ((o::xs++(J::ys)).map enc)))],.vs (d,tk) sz 0 (o::xs++(J::ys)).length⟩) ?_ (O _ (H.set i ((d,tk),gB sz enc (o::xs++(J::ys)))) (d,tk) (.inl rfl) ⟨by simp,by simp⟩ ?_ (h (d,tk)))
   ·rw [j]
    simp only [mf,he,B,hs,W,if_pos I,Y,List.map_nil,List.map_cons,if_true,hS]
    rw [if_pos ⟨trivial,by simp,F _ (by simpa using L)⟩]
    simp
    try omega
   ·exact R.swap ok rfl N _ _ (λm h1 h2=>by simp [fo,supd,h2,h1]) (λx f=>by simp only [fo,supd,if_true];exact f)
theorem jF (p:Nat) (A:q=none\/Nat.beq all.length (p+(rest.length+1))=true) (W:∀S tk,AgR H S tk (⟨some d,.call ⟨.builtin .append,#[x,y],#[t,t']⟩,ty,pos,after,g⟩::rest)->okQ q all p [n] true) (he:bG C.P t=some e) (j:bG C.P t'=some e') (hs:szT C.P e=some sz) (J:zeroCells C.P e=some z) (I:z.length=sz) (O:0<sz) (F:fI C.P e=bytes) (o:bytes<=100000)
  (f:∀y,(enc y).length=sz) (L:ev sl x=gV n sz xs) (T:H[i]? = some (n,gB sz enc xs)) (M:ev sl y=vL enc ys) (R:kv xs ys=some zs)
  (N:aQ all sl ⟨some d,.call ⟨.builtin .append,#[x,y],#[t,t']⟩,ty,pos,after,g⟩=some true)
  (h:∀B:Nm,aZ (pO q p [n,B] true) C all K rest (upd sl d (gV B sz zs)) (H.set i (B,gB sz enc zs))):aZ q C all K (⟨some d,.call ⟨.builtin .append,#[x,y],#[t,t']⟩,ty,pos,after,g⟩::rest) sl H :=
 h_appgX p A W he (yx j) (AZ j) hs J I O F o f L T (λS=>by rw [M];simp only [nD,rH,Dc (sz:=sz) f ys,if_true]) R N h
theorem h_appv (p:Nat) (O:q=none\/Nat.beq all.length (p+(rest.length+1))=true) (hf:∀S tk,AgR H S tk (⟨some d,.call ⟨.builtin .append,#[x,y],#[t,t']⟩,ty,pos,after,g⟩::rest)->okQ q all p [n] true) (he:bG C.P t=some e) (o:bG C.P t'=some e') (hs:szT C.P e=some sz) (hz:zeroCells C.P e=some z) (W:z.length=sz) (hp:0<sz) (hby:fI C.P e=bytes) (Y:bytes<=100000)
  (J:∀y,(enc y).length=sz) (j:ev sl x=vV n sz xs) (M:H[i]? = some (n,some (bV sz enc xs))) (hy:ev sl y=vL enc ys) (B:kv xs ys=some zs)
  (hw:aQ all sl ⟨some d,.call ⟨.builtin .append,#[x,y],#[t,t']⟩,ty,pos,after,g⟩=some true)
  (h:∀Z:Nm,aZ (pO q p [n,Z] true) C all K rest (upd sl d (vV Z sz zs)) (H.set i (Z,some (bV sz enc zs)))):aZ q C all K (⟨some d,.call ⟨.builtin .append,#[x,y],#[t,t']⟩,ty,pos,after,g⟩::rest) sl H:=by
 unfold kv at B
 split at B
 case isFalse=>cases B
 rename_i F
 simp only [so_]at B
 subst B
 refine vH rfl p [n] O hf (wP M) hw (λS tk K' ok R N => ?_)
 have f:=Dc (sz:=sz) J ys
 have L:z.length=sz/\0<sz:=⟨W,hp⟩
 have I:∀m,m<=1000000000->(2*m+192)*fI C.P e<=2 ^ 48/\m<=2 ^ 48:=λm hm=>by
  rw [hby]
  have:=Nat.mul_le_mul (show 2*m+192<=2000000192 by omega) Y
  exact⟨by omega,by omega⟩
 have run:∀{A:Eff},mf C.P t t' S (ev sl x) (ev sl y) d tk=some A->K' A->opD C ⟨some d,.call ⟨.builtin .append,#[x,y],#[t,t']⟩,ty,pos,after,g⟩ sl S tk K':=λB N=>zq (by show (bif qb C.P t' then _ else _)=_;rw [AZ o,cond_false];exact B) N
 have hS:S n=some (.vec sz (xs.map enc)):=R.get M
 cases ys with
 | nil =>
  refine run (A:=⟨[(n,.vec sz (xs.map enc))],[],.vs n sz 0 xs.length⟩) ?_ (N _ (H.set i (n,some (bV sz enc (xs++[])))) n (.inr (by simp)) ⟨by simp,by simp⟩ (by
   have:=Lx R M (b':=some (bV sz enc (xs++[]))) (λx j=>by simp only [List.append_nil]at j;rw [hS];exact j)
   exact this.tail) (by have:=h n;rw [List.append_nil]at this;rw [List.append_nil];exact this))
  rw [j,hy]
  simp only [vV,mf,he,yx o,hs,hz,if_pos L,nD,rH,f,if_true,hS]
  rw [if_pos ⟨trivial,by simp,I _ (by simpa using F)⟩]
  rfl
 | cons T ys =>
  refine run (A:=⟨[(n,.vec sz (xs.map enc))],[(n,none),((d,tk),some (.vec sz ((xs++(T::ys)).map enc)))],.vs (d,tk) sz 0 (xs++(T::ys)).length⟩) ?_ (N _ (H.set i ((d,tk),some (bV sz enc (xs++(T::ys))))) (d,tk) (.inl rfl) ⟨by simp,by simp⟩ ?_ (h (d,tk)))
  ·rw [j,hy]
   simp only [vV,mf,he,yx o,hs,hz,if_pos L,nD,rH,f,if_true,hS]
   rw [if_pos ⟨trivial,by simp,I _ (by simpa using F)⟩]
   simp
  ·exact R.swap ok rfl M _ _ (λm h1 h2=>by simp [fo,supd,h2,h1]) (λx j=>by simp only [fo,supd,if_true];exact j)
end app
end
end Go.Eng

/-
  THE ENGINE: calls, a function's end, and what may be done between operations.
-/
namespace Go.Eng
set_option linter.unusedSectionVars false
variable [DM]
set_option linter.unusedVariables false
set_option linter.unusedSimpArgs false
section
variable {C:Cfg} {sl:Nat->V} {H:Hp} {q:Qm} {all rest:List Oper} {K:(Nat->V)->Hp->Prop}
variable {dst:Option Tmp} {d:Nat} {t ty:TypeId} {pos:String} {after:Array Edge} {g:Option (Nat×Bool)}
theorem Ck {S:Store}:∀{vs:List V},vs.flatMap frz=[]->vs.map (co S)=vs.map co0
  | vs,h=>List.map_congr_left (λv f=>co_0 (ww h v f))
theorem wL {f:Operand} {args:List Operand} {o:Array TypeId} {fn:FuncId} {caps:List V} {S:Store} {tk:Nat} {j:Eff->Prop} (A:ev sl f = .fn fn caps) (h:JW C (.fn fn caps) (args.map (ev sl)) dst S tk j) :
    opD C ⟨dst,.call ⟨.value f,args.toArray,o⟩,ty,pos,after,g⟩ sl S tk j:=by
  show JW C (ev sl f) (args.toArray.toList.map (ev sl)) dst S tk j
  rw [A,List.toList_toArray];exact h
theorem aB {f:Operand} {args:List Operand} {B:Array TypeId} {fn:FuncId} {caps j:List V} {r:V} (hc:FnM C.P fn j [] r []) (O:ev sl f = .fn fn caps) (hb:aJ C.P fn=true)
    (o:(args.map (ev sl)++caps).flatMap frz=[]) (M:(args.map (ev sl)++caps).map co0=j) (A:okL 0 j=true) (I:okV 0 r=true)
    (J:aQ all sl ⟨dst,.call ⟨.value f,args.toArray,B⟩,ty,pos,after,g⟩=some true) (h:aZ q C all K rest (dI sl dst r) H):aZ q C all K (⟨dst,.call ⟨.value f,args.toArray,B⟩,ty,pos,after,g⟩::rest) sl H :=
  nW J (λS tk L _ N=>wL O (by
    refine .inl ⟨hb,⟨[],[],j,[],r,[],false⟩,?_,λ_=>rfl,?_⟩
    · exact { does := hc
              args:=ArgsOK.of_map <| by
                show (args.map (ev sl)++caps).map (co S)=renL [] j
                rw [Ck o,M,KD A]
              okA:=A,nodup:=List.nodup_nil,ins:=trivial,len:=Nat.le_refl _,okR:=I,okO:=rfl,mutN:=rfl
              roOK:=(λe=>by cases e),have_:=(λn o=>nomatch o),cov:=(λn F=>by rw [o]at F;cases F),dis:=(λn o=>nomatch o) }
    · have:ren [] r=r:=wW I
      show L ⟨_,_,ren [] r⟩
      rw [this]
      exact N _ rfl rfl rfl)) h
theorem h_ext {f:Operand} {args:List Operand} {o:Array TypeId} {fn:FuncId} {j:List V} {r:D} (hc:ExtM C.P fn j r) (I:ev sl f = .fn fn []) (hb:aJ C.P fn=false)
    (A:args.map (ev sl)=j)
    (B:aQ all sl ⟨dst,.call ⟨.value f,args.toArray,o⟩,ty,pos,after,g⟩=some true) (h:aZ q C all K rest (dI sl dst (.d r)) H):aZ q C all K (⟨dst,.call ⟨.value f,args.toArray,o⟩,ty,pos,after,g⟩::rest) sl H :=
  nW B (λS tk J _ F=>wL I (by
    refine .inr ⟨hb,r,?_,F _ rfl rfl rfl⟩
    rw [A,List.append_nil];exact hc)) h
def oU (H:Hp):List Nat->Option (List (Nm×Box))
  | []=>some []
  | i::f=>match H[i]?,oU H f with
    | some (n,some b),some l=>some ((n,b)::l)
    | _,_=>none
def setH (H:Hp):List (Nat×Nm×Option Box)->Hp
  | []=>H
  | (i,n,b)::l=>setH (H.set i (n,b)) l
theorem mD:∀{f:List Nat} {l:List (Nm×Box)},oU H f=some l->l.length=f.length/\∀j (h1:j<f.length) (h2:j<l.length),H[f[j]]? = some (l[j].1,some l[j].2)
  | [],l,h=>by simp only [oU,so_]at h;subst h;exact⟨rfl,λj h1=>absurd h1 (Nat.not_lt_zero _)⟩
  | i::f,l,h=>by
    simp only [oU]at h
    split at h
    · rename_i n b I h1 h2
      simp only [so_]at h
      subst h
      obtain ⟨B,F⟩:=mD h2
      refine⟨by simp [B],λj o A => ?_⟩
      cases j with
      | zero=>exact h1
      | succ j=>exact F j (by simpa using o) (by simpa using A)
    · cases h
theorem yj {S:Store} {ρ:List Nm}:∀{ns:List Nm} {bs:List Box},ns.length=bs.length->(∀j (h1:j<ns.length) (h2:j<bs.length),bs[j].ok ρ.length=true/\S ns[j]=some (bs[j].ren ρ))->insOK S ρ ns bs
  | [],[],_,_=>trivial
  | n::ns,b::bs,hl,h=>⟨h 0 (by simp) (by simp),yj (by simpa using hl) (λj h1 h2=>h (j+1) (by simpa using h1) (by simpa using h2))⟩
  | [],_::_,hl,_=>by simp at hl
  | _::_,[],hl,_=>by simp at hl
theorem zw {S:Store} {tk:Nat} {l:List Oper} (L:AgR H S tk l) {f:List Nat} (hi:f.Nodup) {l:List (Nm×Box)} (h:oU H f=some l):(l.map (·.1)).Nodup:=by
  obtain ⟨h1,h2⟩:=mD h
  refine List.pairwise_iff_getElem.2 (λa c F hc J => ?_)
  simp only [List.length_map]at F hc
  simp only [List.getElem_map]
  intro e
  have B:=h2 a (by omega) F
  have A:=h2 c (by omega) hc
  have j:=(List.getElem?_eq_some_iff.1 B).1
  have o:=(List.getElem?_eq_some_iff.1 A).1
  have I:=nQ L.nd f[a] f[c] (by simpa using j) (by simpa using o) (by
    simp only [List.getElem_map]
    rw [(List.getElem?_eq_some_iff.1 B).2,(List.getElem?_eq_some_iff.1 A).2];exact e)
  have:=nQ hi a c (by omega) (by omega) I
  omega
def outs (ν:List Nm):List Nat->List Nm->List (Option Box)->List (Nat×Nm×Option Box)
  | i::f,n::ns,b::bs=>(i,n,b.map (·.ren ν))::outs ν f ns bs
  | _,_,_=>[]
def news (ν:List Nm):List Nm->List (Option Box)->Hp
  | n::ns,b::bs=>(n,b.map (·.ren ν))::news ν ns bs
  | _,_=>[]
theorem Mh (a b:List (Nat×Nm×Option Box)):∀H:Hp,setH H (a++b)=setH (setH H a) b:=by
  induction a with
  | nil=>intro H;rfl
  | cons x a f=>intro H;obtain ⟨i,n,o⟩:=x;exact f _
theorem Qi {l:List (Nat×Nm×Option Box)}:∀{H:Hp},(setH H l).length=H.length:=by
  induction l with
  | nil=>intro H;rfl
  | cons x l f=>intro H;obtain ⟨i,n,b⟩:=x;simp only [setH];rw [f];simp
theorem DT {tk:Nat} {lo:List Oper} {ν:List Nm}:∀{f:List Nat} {ns:List Nm} {bs:List (Option Box)} {H:Hp} {S:Store} (o:AgR H S tk lo) (hi:f.Nodup) (I:ns.Nodup)
    (h:∀j (h1:j<f.length) (h2:j<ns.length),∃b,H[f[j]]? = some (ns[j],b)),AgR (setH H (outs ν f ns bs)) (fo S (eD ν (ns.take f.length) bs)) tk lo
  | [],ns,bs,H,S,o,_,_,_=>by simp only [outs,setH,List.length_nil,List.take_zero,eD,fo];exact o
  | i::f,[],bs,H,S,o,_,_,_=>by simp only [outs,setH,List.take_nil,eD,fo];exact o
  | i::f,n::ns,[],H,S,o,_,_,_=>by simp only [outs,setH,List.length_cons,List.take_succ_cons,eD,fo];exact o
  | i::f,n::ns,b::bs,H,S,o,hi,I,h=>by
    simp only [outs,setH,List.length_cons,List.take_succ_cons,eD,fo]
    obtain ⟨M,A⟩:=h 0 (by simp) (by simp)
    have A:H[i]? = some (n,M):=A
    refine DT (o.set A (b:=b.map (Box.ren ν)) (b':=b.map (Box.ren ν)) (λx L=>L)) (List.nodup_cons.1 hi).2 (List.nodup_cons.1 I).2 (λj h1 h2 => ?_)
    obtain ⟨J,B⟩:=h (j+1) (by simpa using h1) (by simpa using h2)
    refine⟨J,?_⟩
    have F:i≠f[j]:=λe=>(List.nodup_cons.1 hi).1 (e ▸ List.getElem_mem _)
    rw [List.getElem?_set_ne F]
    exact B
theorem AgR.news {tk:Nat} {o:Oper} (ok:uT C (o::rest)) (J:o.dst=some d) {ν:List Nm}:∀(m:Nat) {bs:List (Option Box)} {H:Hp} {S:Store} (k:Nat),
    ((H.map (·.1)).Nodup/\0<tk)->(∀p∈H,((p.1.2<tk\/p.1.2=tk/\(∀L∈o::rest,L.dst≠some (p.1.1 % 100000)))\/∃j,j<k/\p.1=(d+100000*j,tk))/\∀b,p.2=some b->S p.1=some b) ->
    AgR (H++Eng.news ν ((List.range' k m).map λj=>(d+100000*j,tk)) bs) (fo S (eD ν ((List.range' k m).map λj=>(d+100000*j,tk)) bs)) tk rest
  | 0,bs,H,S,k,A,B=>by
    simp only [List.range'_zero,List.map_nil,Eng.news,List.append_nil,eD,fo]
    have I:=(qp (ok.2 o (by simp)) J).2
    refine⟨A.2,A.1,λp f=>⟨?_,(B p f).2⟩⟩
    rcases (B p f).1 with (h|⟨h1,h2⟩) | ⟨j,_,h⟩
    · exact .inl h
    · exact .inr ⟨h1,λL F=>h2 L (by simp [F])⟩
    · refine .inr ⟨by rw [h],λL F N => ?_⟩
      have O:(d+100000*j) % 100000=d:=(Nat.add_mul_mod_self_left d 100000 j).trans (Nat.mod_eq_of_lt I)
      rw [h,O]at N
      have h1:=ok.1
      simp only [mU,J,Bool.and_eq_true]at h1
      have h2:=List.all_eq_true.1 h1.1 L F
      simp only [N,Nat.beq_refl]at h2
      cases h2
  | m+1,[],H,S,k,A,B=>by
    have:=AgR.news (tk:=tk) ok J (S:=S) (ν:=ν) 0 (bs:=[]) k A B
    simpa [List.range'_succ,Eng.news,eD,fo]using this
  | m+1,b::bs,H,S,k,A,B=>by
    have I:=(qp (ok.2 o (by simp)) J).2
    simp only [List.range'_succ,List.map_cons,Eng.news,eD,fo]
    have M:∀p∈H,p.1≠(d+100000*k,tk):=λp f e=>by
      rcases (B p f).1 with (h1|⟨_,h1⟩) | ⟨j,hj,h1⟩
      · rw [e]at h1;exact Nat.lt_irrefl _ h1
      · have:=h1 o (by simp)
        have O:(d+100000*k) % 100000=d:=(Nat.add_mul_mod_self_left d 100000 k).trans (Nat.mod_eq_of_lt I)
        rw [e,J,O]at this
        exact this rfl
      · rw [e]at h1
        simp only [Prod.mk.injEq,and_true]at h1
        omega
    have:=AgR.news (tk:=tk) ok J (ν:=ν) m (bs:=bs) (H:=H++[((d+100000*k,tk),b.map (·.ren ν))]) (S:=supd S (d+100000*k,tk) (b.map (·.ren ν))) (k+1) ?_ ?_
    · simpa only [List.append_assoc,List.cons_append,List.nil_append]using this
    · refine⟨?_,A.2⟩
      rw [List.map_append,List.nodup_append]
      refine⟨A.1,by simp,λa T c hc => ?_⟩
      simp only [List.map_cons,List.map_nil,List.mem_singleton]at hc
      obtain ⟨p,f,rfl⟩:=List.mem_map.1 T
      rw [hc];exact M p f
    · intro p f
      rcases List.mem_append.1 f with f|f
      · refine⟨?_,λx R=>by simp only [supd,if_neg (M p f)];exact (B p f).2 x R⟩
        rcases (B p f).1 with h|⟨j,hj,h⟩
        · exact .inl h
        · exact .inr ⟨j,by omega,h⟩
      · simp only [List.mem_singleton]at f
        subst f
        exact⟨.inr ⟨k,by omega,rfl⟩,λx R=>by simp only [supd,if_true];exact R⟩
theorem J7 {β:Type} (f:Nat->β) (m:Nat):(List.range m).map f=(List.range' 0 m).map f:=by rw [List.range_eq_range']
theorem Cs (ν:List Nm):∀(a b:List Nm) (bs:List (Option Box)),eD ν (a++b) bs=eD ν a bs++eD ν b (bs.drop a.length)
  | [],b,bs=>by simp [eD]
  | x::a,b,[]=>by cases b <;> simp [eD]
  | x::a,b,y::bs=>by simp only [List.cons_append,eD,List.length_cons,List.drop_succ_cons];rw [Cs ν a b bs]
theorem KN {f:Operand} {args:List Operand} {N:Array TypeId} {fn:FuncId} {caps o:List V} {r:V} {Sin:List Box} {Sout:List (Option Box)} (F:List Nat) (m:Nat) {l:List (Nm×Box)} (hc:FnM C.P fn o Sin r Sout)
    (hf:ev sl f = .fn fn caps) (hb:aJ C.P fn=true) (hl:oU H F=some l) (hS:Sin.map (λb=>b.ren (l.map (·.1)))=l.map (·.2)) (O:Sin.all (λb=>b.ok F.length)=true)
    (J:((args.map (ev sl)++caps).flatMap frz).all (λn=>false)=true) (ha:(args.map (ev sl)++caps).map co0=renL (l.map (·.1)) o) (Y:okL F.length o=true) (hr:okV Sout.length r=true)
    (L:Sout.length=F.length+m) (hi:F.Nodup) (hO:okOut Sout.length Sout=true) (hmu:mutOut (Sout.drop F.length)=true)
    (hw:aQ all sl ⟨some d,.call ⟨.value f,args.toArray,N⟩,ty,pos,after,g⟩=some true)
    (h:∀ν:Nat->Nm,aZ none C all K rest (upd sl d (ren (l.map (·.1)++(List.range m).map ν) r))
      (setH H (outs (l.map (·.1)++(List.range m).map ν) F (l.map (·.1)) Sout)++news (l.map (·.1)++(List.range m).map ν) ((List.range m).map ν) (Sout.drop F.length))) :
    aZ none C all K (⟨some d,.call ⟨.value f,args.toArray,N⟩,ty,pos,after,g⟩::rest) sl H:=by
  have R:(args.map (ev sl)++caps).flatMap frz=[]:=by
    cases hx:(args.map (ev sl)++caps).flatMap frz with
    | nil=>rfl
    | cons a b=>rw [hx]at J;simp at J
  obtain ⟨B,T⟩:=mD hl
  have I:Sin.length=l.length:=by have:=congrArg List.length hS;simpa using this
  refine NU hw (λS tk K' ok ag hk=>wL hf ?_)
  have h:=h (λj=>(d+100000*j,tk))
  have M:=zw ag hi hl
  refine .inl ⟨hb,⟨[],l.map (·.1),o,Sin,r,Sout,false⟩,?_,(λe=>by cases e),?_⟩
  · exact { does := hc
            args:=ArgsOK.of_map <| by
              show (args.map (ev sl)++caps).map (co S)=_
              rw [Ck R,ha]
            okA:=by simp only [List.length_map,B];exact Y
            nodup:=M
            ins:=by
              refine yj (by simp [I]) (λj h1 h2=>⟨?_,?_⟩)
              · simp only [List.length_map,B]
                exact List.all_eq_true.1 O _ (List.getElem_mem h2)
              · simp only [List.length_map]at h1
                have e:=T j (by omega) h1
                have W:l[j].2=Sin[j].ren (l.map (·.1)):=by
                  have:=congrArg (λx=>x[j]?) hS
                  simp only [List.getElem?_map,List.getElem?_eq_getElem h2,List.getElem?_eq_getElem h1,Option.map_some,so_]at this
                  exact this.symm
                simp only [List.getElem_map]
                show S l[j].1=_
                rw [ag.get e,W]
            len:=by rw [I,L,B];omega
            okR:=hr,okO:=hO,mutN:=by rw [I,B];exact hmu
            roOK:=(λe=>by cases e),have_:=(λn J=>nomatch J),cov:=(λn h'=>by rw [R]at h';cases h'),dis:=(λn _ J=>nomatch J) }
  · have Z:Sout.length-Sin.length=m:=by omega
    have e1:CallData.eff ⟨[],l.map (·.1),o,Sin,r,Sout,false⟩ S d tk=⟨((l.map (·.1)).zip Sin).map (λp=>(p.1,p.2.ren (l.map (·.1)))),eD (l.map (·.1)++ou d tk m) (l.map (·.1)++ou d tk m) Sout,ren (l.map (·.1)++ou d tk m) r⟩:=by
      simp only [CallData.eff,cond_false,CallData.names,Z,ic,ig,List.nil_append]
    show K' (CallData.eff _ S d tk)
    rw [e1]
    refine hk _ _ ?_ h
    have W:(List.range m).map (λj=>(d+100000*j,tk))=ou d tk m:=rfl
    rw [W]
    show AgR _ (fo S (eD _ (l.map (·.1)++ou d tk m) Sout)) tk rest
    rw [Cs,Af]
    have e3:(l.map (·.1)).length=F.length:=by simp [B]
    rw [e3]
    have A:=DT (ν:=l.map (·.1)++ou d tk m) ag hi M (bs:=Sout) (λj h1 h2=>by
      simp only [List.length_map]at h2
      exact⟨_,by simp only [List.getElem_map];exact T j h1 h2⟩)
    rw [List.take_of_length_le (by omega)]at A
    have e4:ou d tk m=(List.range' 0 m).map λj=>(d+100000*j,tk):=by rw [<- W,J7]
    rw [e4]at A ⊢
    exact AgR.news ok rfl m 0 ⟨A.nd,A.pos⟩ (λp hp=>⟨.inl (A.at_ p hp).1,(A.at_ p hp).2⟩)
theorem zk {ν:List Nm}:∀{ns:List Nm} {bs:List (Option Box)} {p:Nm×Option Box},p∈eD ν ns bs->p.1∈ns
  | n::ns,b::bs,p,h=>by
    rcases List.mem_cons.1 h with rfl|h
    · simp
    · exact List.mem_cons_of_mem _ (zk h)
  | [],_,_,h=>by simp [eD]at h
  | _::_,[],_,h=>by simp [eD]at h
theorem Ej:∀{j:List Nat} {l:List (Nm×Box)},oU H j=some l->∀m∈l.map (·.1),m∈H.map (·.1)
  | [],l,h,m,f=>by simp only [oU,so_]at h;subst h;cases f
  | i::j,l,h,m,f=>by
    simp only [oU]at h
    split at h
    · rename_i n b o h1 h2
      simp only [so_]at h;subst h
      simp only [List.map_cons,List.mem_cons]at f
      rcases f with rfl|f
      · exact wP h1 _ (by simp)
      · exact Ej h2 m f
    · cases h
theorem gm {f:Operand} {args:List Operand} {B:Array TypeId} {fn:FuncId} {caps o:List V} {r:V} {Sin:List Box} {Sout:List (Option Box)} (p:Nat) (F:List Nat) {l:List (Nm×Box)} (hp:q=none\/Nat.beq all.length (p+(rest.length+1))=true)
    (hfp:∀S tk,AgR H S tk (⟨some d,.call ⟨.value f,args.toArray,B⟩,ty,pos,after,g⟩::rest)->okQ q all p (l.map (·.1)) true) (hc:FnM C.P fn o Sin r Sout)
    (hf:ev sl f = .fn fn caps) (hb:aJ C.P fn=true) (hl:oU H F=some l) (hS:Sin.map (λb=>b.ren (l.map (·.1)))=l.map (·.2)) (M:Sin.all (λb=>b.ok F.length)=true)
    (I:((args.map (ev sl)++caps).flatMap frz).all (λn=>false)=true) (ha:(args.map (ev sl)++caps).map co0=renL (l.map (·.1)) o) (T:okL F.length o=true) (hr:okV Sout.length r=true)
    (hlen:Sout.length=F.length) (hi:F.Nodup) (hO:okOut Sout.length Sout=true)
    (hw:aQ all sl ⟨some d,.call ⟨.value f,args.toArray,B⟩,ty,pos,after,g⟩=some true)
    (v:V) (hv:ren (l.map (·.1)) r=v) (H':Hp) (hH:setH H (outs (l.map (·.1)) F (l.map (·.1)) Sout)=H')
    (h:aZ (pO q p (l.map (·.1)) true) C all K rest (upd sl d v) H') :
    aZ q C all K (⟨some d,.call ⟨.value f,args.toArray,B⟩,ty,pos,after,g⟩::rest) sl H:=by
  subst hv hH
  have O:(args.map (ev sl)++caps).flatMap frz=[]:=by
    cases L:(args.map (ev sl)++caps).flatMap frz with
    | nil=>rfl
    | cons a b=>rw [L]at I;simp at I
  obtain ⟨A,R⟩:=mD hl
  have Z:Sin.length=l.length:=by have:=congrArg List.length hS;simpa using this
  refine ol p (l.map (·.1)) true hp hfp (Ej hl) hw (λS tk K' ok Y hk=>wL hf ?_)
  have J:=zw Y hi hl
  refine .inl ⟨hb,⟨[],l.map (·.1),o,Sin,r,Sout,false⟩,?_,(λe=>by cases e),?_⟩
  · exact { does := hc
            args:=ArgsOK.of_map <| by
              show (args.map (ev sl)++caps).map (co S)=_
              rw [Ck O,ha]
            okA:=by simp only [List.length_map,A];exact T
            nodup:=J
            ins:=by
              refine yj (by simp [Z]) (λj h1 h2=>⟨?_,?_⟩)
              · simp only [List.length_map,A]
                exact List.all_eq_true.1 M _ (List.getElem_mem h2)
              · simp only [List.length_map]at h1
                have e:=R j (by omega) h1
                have e2:l[j].2=Sin[j].ren (l.map (·.1)):=by
                  have:=congrArg (λx=>x[j]?) hS
                  simp only [List.getElem?_map,List.getElem?_eq_getElem h2,List.getElem?_eq_getElem h1,Option.map_some,so_]at this
                  exact this.symm
                simp only [List.getElem_map]
                show S l[j].1=_
                rw [Y.get e,e2]
            len:=by show Sin.length<=Sout.length;omega
            okR:=hr,okO:=hO,mutN:=by show mutOut (List.drop Sin.length Sout)=true;rw [List.drop_of_length_le (by omega)];rfl
            roOK:=(λe=>by cases e),have_:=(λn I=>nomatch I),cov:=(λn h'=>by rw [O]at h';cases h'),dis:=(λn _ I=>nomatch I) }
  · have W:Sout.length-Sin.length=0:=by omega
    have e1:CallData.eff ⟨[],l.map (·.1),o,Sin,r,Sout,false⟩ S d tk=⟨((l.map (·.1)).zip Sin).map (λp=>(p.1,p.2.ren (l.map (·.1)))),eD (l.map (·.1)) (l.map (·.1)) Sout,ren (l.map (·.1)) r⟩:=by
      simp only [CallData.eff,cond_false,CallData.names,W,ou,List.range_zero,List.map_nil,List.append_nil,ic,ig,List.nil_append]
    show K' (CallData.eff _ S d tk)
    rw [e1]
    refine hk _ _ ⟨λx L => ?_,λx L=>zk L⟩ (λh=>by cases h) ?_ h
    · obtain ⟨y,hy,rfl⟩:=List.mem_map.1 L
      exact (List.of_mem_zip hy).1
    · have e3:(l.map (·.1)).length=F.length:=by simp [A]
      have N:=DT (ν:=l.map (·.1)) Y hi J (bs:=Sout) (λj h1 h2=>by
        simp only [List.length_map]at h2
        exact⟨_,by simp only [List.getElem_map];exact R j h1 h2⟩)
      rw [List.take_of_length_le (by omega)]at N
      exact N.tail
end
end Go.Eng

/-
  THE ENGINE: what may be known anew between operations; a function's end and its contract; loops over a list.
-/
namespace Go.Eng
set_option linter.unusedSectionVars false
variable [DM]
set_option linter.unusedVariables false
set_option linter.unusedSimpArgs false
section
variable {C:Cfg} {sl:Nat->V} {H:Hp} {Q:QH} {c:Code}
theorem Ag.get {S:Store} {tk:Nat} (f:Ag H S tk) {i:Nat} {n:Nm} {b:Box} (h:H[i]? = some (n,some b)):S n=some b :=
 (f.at_ _ (List.mem_of_getElem? h)).2 b rfl
theorem Ag.set {S:Store} {tk:Nat} (o:Ag H S tk) {i:Nat} {n:Nm} {B b b':Option Box} (h:H[i]? = some (n,B)) (hb:∀x,b=some x->b'=some x):Ag (H.set i (n,b)) (supd S n b') tk:=by
 have hi:i<H.length:=(List.getElem?_eq_some_iff.1 h).1
 have he:H[i]=(n,B):=(List.getElem?_eq_some_iff.1 h).2
 have F:(H.set i (n,b)).map (·.1)=H.map (·.1):=by
  apply List.ext_getElem
  ·simp
  ·intro j h1 h2
   simp only [List.getElem_map,List.getElem_set]
   split
   ·rename_i e;subst e;rw [he]
   ·rfl
 refine⟨o.pos,by rw [F];exact o.nd,λp I => ?_⟩
 obtain ⟨j,hj,rfl⟩:=List.getElem_of_mem I
 simp only [List.length_set]at hj
 simp only [List.getElem_set]
 split
 ·rename_i e;subst e
  have:=o.at_ (n,B) (by rw [<- he];exact List.getElem_mem hi)
  exact⟨this.1,λx A=>by simp only [supd,if_true];exact hb x A⟩
 ·rename_i e
  have h1:=o.at_ H[j] (List.getElem_mem hj)
  refine⟨h1.1,λx A => ?_⟩
  have f:H[j].1≠n:=λf=>e (nQ o.nd i j (by simpa using hi) (by simpa using hj) (by simp [he,f]))
  simp only [supd,if_neg f]
  exact h1.2 x A
theorem Ag.drop {S:Store} {tk:Nat} (f:Ag H S tk) {i:Nat} {n:Nm} {o:Option Box} (h:H[i]? = some (n,o)):Ag (H.set i (n,none)) S tk:=by
 have hi:i<H.length:=(List.getElem?_eq_some_iff.1 h).1
 have he:H[i]=(n,o):=(List.getElem?_eq_some_iff.1 h).2
 have A:(H.set i (n,none)).map (·.1)=H.map (·.1):=by
  apply List.ext_getElem
  ·simp
  ·intro j h1 h2
   simp only [List.getElem_map,List.getElem_set]
   split
   ·rename_i e;subst e;rw [he]
   ·rfl
 refine⟨f.pos,by rw [A];exact f.nd,λp B => ?_⟩
 obtain ⟨j,hj,rfl⟩:=List.getElem_of_mem B
 simp only [List.length_set]at hj
 simp only [List.getElem_set]
 split
 ·rename_i e;subst e
  have:=f.at_ (n,o) (by rw [<- he];exact List.getElem_mem hi)
  exact⟨this.1,λx F=>by cases F⟩
 ·exact f.at_ H[j] (List.getElem_mem hj)
theorem KY {i:Nat} {n:Nm} {o:Option Box} (h:H[i]? = some (n,o)) (f:wH C c Q sl (H.set i (n,none))):wH C c Q sl H :=
 wT f (λS t j=>⟨S,.refl _,j.drop h⟩)
theorem freeze1 {S:Store} {n:Nm} {sz:Nat} {ys:List (List D)} (h:S n=some (.vec sz ys)):freezeAll S [n]=supd S n (some (.froz sz ys)):=by
 simp [freezeAll,ig,h,fo]
theorem iM (h:∀n:Nm,wH C c Q sl (H++[(n,none)])):wH C c Q sl H:=λok S t j=>by
 have A:∃m:Nat,∀p∈H,p.1.1<m:=by
  clear h j
  induction H with
  | nil=>exact⟨0,λp f=>by cases f⟩
  | cons x H F =>
   obtain ⟨m,o⟩:=F
   refine⟨max m (x.1.1+1),λp f => ?_⟩
   rcases List.mem_cons.1 f with rfl|f
   ·omega
   ·have:=o p f;omega
 obtain ⟨m,o⟩:=A
 refine h (m,0) ok S t ⟨j.pos,?_,λp f => ?_⟩
 ·rw [List.map_append,List.nodup_append]
  refine⟨j.nd,by simp,λa I b hb e => ?_⟩
  simp only [List.map_cons,List.map_nil,List.mem_singleton]at hb
  obtain ⟨p,f,rfl⟩:=List.mem_map.1 I
  have:=o p f
  rw [e,hb]at this
  exact Nat.lt_irrefl _ this
 ·rcases List.mem_append.1 f with f|f
  ·exact j.at_ p f
  ·simp only [List.mem_singleton]at f
   subst f
   exact⟨j.pos,λx B=>by cases B⟩
theorem tJ {ν:List Nm} {i:Nat} {n:Nm} (h:ν[i]? = some n):AU ν (aA i)=n:=by
 simp only [AU,w9,List.getD_eq_getElem?_getD,h,Option.getD_some]
theorem R5 {α:Type} {ν:List Nm} {n:Nm} {sz:Nat} (xs:List α):ren ν (gV n sz xs)=gV (AU ν n) sz xs:=by cases xs <;> rfl
theorem R3 {α:Type} {k i sz:Nat} (h:i<k) (xs:List α):okV k (gV (aA i) sz xs)=true:=by
 cases xs with
 | nil=>rfl
 | cons x xs=>exact GK h
def resC (C:Cfg) (sl:Nat->V) (H:Hp) (a t:Nat) (v:V):Prop:=∃(k:Nat) (n:Nm) (i j sz size:Nat) (cs:List V) (agg:Bool),
 sl a = .ref n i j/\H[k]? = some (n,some (.cells sz cs))/\szT C.P t=some size/\bU C.P t=agg/\rdV agg size (cs.drop (i*sz+j))=some v
def GX (C:Cfg) (sl:Nat->V) (H:Hp):List ResultVar->List V->Prop
 | [],[]=>True
 | .tmp t::f,v::vs=>sl t=v/\GX C sl H f vs
 | .cell a t::f,v::vs=>resC C sl H a t v/\GX C sl H f vs
 | _,_=>False
theorem KC {S:Store} {tk:Nat} (o:Ag H S tk):∀{f:List ResultVar} {vs:List V},GX C sl H f vs->IY C ⟨sl,S,tk⟩ f=some vs
 | [],[],_=>rfl
 | .tmp t::f,v::vs,h=>by
  obtain ⟨rfl,h⟩:=h
  simp only [IY,KC o h,Option.map_some]
 | .cell a t::f,v::vs,h=>by
  obtain ⟨⟨k,n,i,j,sz,size,cs,agg,h1,h2,A,B,F⟩,h⟩:=h
  have e:vN C.P t S (sl a)=some ⟨[(n,.cells sz cs)],[],v⟩:=by
   rw [h1,Eh A B,o.get h2]
   simp only [Mj,F,Option.map_some]
  simp only [IY,e,KC o h]
 | [],_::_,h=>h.elim
 | .tmp _::_,[],h=>h.elim
 | .cell _ _::_,[],h=>h.elim
def CoOK (H:Hp) (v v':V):Prop:=v'=v\/∀S t,Ag H S t->v'=co S v
theorem oh {v v':V} (h:frz v=[]) (h2:co0 v=v'):CoOK H v v' := .inr λS t _=>by rw [co_0 h,h2]
inductive CoL (H:Hp):List V->List V->Prop
 | nil:CoL H [] []
 | cons {v v':V} {vs vs':List V} (h:CoOK H v v') (hs:CoL H vs vs'):CoL H (v::vs) (v'::vs')
theorem CoL.get {vs f:List V} (h:CoL H vs f):vs.length=f.length/\∀(i:Nat) (h1:i<vs.length) (h2:i<f.length),CoOK H vs[i] f[i]:=by
 induction h with
 | nil=>exact⟨rfl,λi h1=>absurd h1 (Nat.not_lt_zero i)⟩
 | cons h _ j =>
  refine⟨by simp [j.1],λi h1 h2 => ?_⟩
  cases i with
  | zero=>exact h
  | succ i=>exact j.2 i (by simpa using h1) (by simpa using h2)
def Ba (H:Hp) (ν:List Nm):List Nat->List Nm->List (Option Box)->Prop
 | [],[],[]=>True
 | j::f,n::ns,b::bs=>H[j]? = some (n,b.map (·.ren ν))/\Ba H ν f ns bs
 | _,_,_=>False
theorem II {ν:List Nm}:∀{f:List Nat} {ns:List Nm} {bs:List (Option Box)},Ba H ν f ns bs->f.length=ns.length/\ns.length=bs.length
 | [],[],[],_=>⟨rfl,rfl⟩
 | _::_,_::_,_::_,h=>⟨by simp [(II h.2).1],by simp [(II h.2).2]⟩
 | [],_::_,_,h=>h.elim
 | [],[],_::_,h=>h.elim
 | _::_,[],_,h=>h.elim
 | _::_,_::_,[],h=>h.elim
theorem Dm {ν:List Nm}:∀{f:List Nat} {ns:List Nm} {bs:List (Option Box)} (_:Ba H ν f ns bs) (i:Nat) (h1:i<f.length) (h2:i<ns.length) (j:i<bs.length),H[f[i]]? = some (ns[i],bs[i].map (·.ren ν))
 | _::_,_::_,_::_,h,0,_,_,_=>h.1
 | _::_,_::_,_::_,h,i+1,h1,h2,j=>Dm h.2 i (by simpa using h1) (by simpa using h2) (by simpa using j)
def qI (C:Cfg) (j:List ResultVar) (k:Nat) (r:V) (Sout:List (Option Box)):QH:=λe sl H=>(e = .normal\/e = .ret) /\
 ∃(vs f:List V) (h:List Nat) (ν:List Nm),GX C sl H j vs/\CoL H vs f/\Jp f=ren ν r/\Ba H ν h ν Sout/\h.Nodup/\(∀i,i<k->ν[i]? = some (aA i))
theorem PL {I:List ResultVar} {k:Nat} {r:V} {Sout:List (Option Box)} {e:Exit} {σ:St} (h:Mi (qI C I k r Sout) e σ):retQ C I (P6 k r Sout) e σ:=by
 obtain ⟨H,j,he,vs,B,L,ν,h1,h2,N,o,h5,T⟩:=h
 obtain ⟨l1,O⟩:=II o
 obtain ⟨Y,c2⟩:=h2.get
 have F:ν.Nodup:=by
  refine List.pairwise_iff_getElem.2 (λa b ha hb W e => ?_)
  have M:=List.getElem?_eq_some_iff.1 (Dm o a (by omega) ha (by omega))
  have J:=List.getElem?_eq_some_iff.1 (Dm o b (by omega) hb (by omega))
  have:=nQ j.nd L[a] L[b] (by simpa using M.1) (by simpa using J.1) (by simp [M.2,J.2,e])
  have:=nQ h5 a b (by omega) (by omega) this
  omega
 have fin:P6 k r Sout vs σ.store:=⟨B,ν,Y,λi R Z=>(c2 i R Z).imp id (λh=>h _ _ j),N,O,F,T,λi bx hb=>by
  obtain ⟨hi,A⟩:=List.getElem?_eq_some_iff.1 hb
  have:=Dm o i (by omega) (by omega) hi
  rw [A]at this
  exact⟨ν[i],List.getElem?_eq_getElem (by omega),j.get this⟩⟩
 have f:IY C σ I=some vs:=KC j h1
 rcases he with rfl|rfl
 ·exact⟨vs,f,fin⟩
 ·exact⟨vs,f,fin⟩
theorem fin0 {f:List ResultVar} {r:V} {e:Exit} (he:e = .normal\/e = .ret) (vs:List V) (h1:GX C sl H f vs) (h2:(vs.flatMap frz).all (λ_=>false)=true) (j:Jp (vs.map co0)=r) (A:okV 0 r=true):qI C f 0 r [] e sl H:=by
 have o:vs.flatMap frz=[]:=by
  cases hx:vs.flatMap frz with
  | nil=>rfl
  | cons a b=>rw [hx]at h2;simp at h2
 have hc:∀{vs:List V},vs.flatMap frz=[]->CoL H vs (vs.map co0):=by
  intro vs
  induction vs with
  | nil=>exact λ_ => .nil
  | cons v vs B=>exact λh => .cons (oh (ww h v (by simp)) rfl) (B (by simp only [List.flatMap_cons,List.append_eq_nil_iff]at h;exact h.2))
 exact⟨he,vs,_,[],[],h1,hc o,by rw [j,wW A],trivial,List.nodup_nil,λi hi=>absurd hi (Nat.not_lt_zero i)⟩
theorem Gw {j:List ResultVar} {k:Nat} {r:V} {Sout:List (Option Box)} {e:Exit} (he:e = .normal\/e = .ret) (vs f:List V) (h:List Nat) (ν:List Nm) (h1:GX C sl H j vs) (h2:CoL H vs f) (B:Jp f=ren ν r)
  (F:Ba H ν h ν Sout) (o:h.Nodup) (A:(ν.take k)=(List.range k).map aA):qI C j k r Sout e sl H :=
 ⟨he,vs,f,h,ν,h1,h2,B,F,o,λi hi=>by
  have:(ν.take k)[i]? = ((List.range k).map aA)[i]? := by rw [A]
  rw [List.getElem?_take,if_pos hi]at this
  rw [this];simp [hi]⟩
def qW:Nat->List Box->Hp
 | _,[]=>[]
 | i,b::bs=>(aA i,some b)::qW (i+1) bs
theorem x8:∀{bs:List Box} {i:Nat} {p:Nm×Option Box},p∈qW i bs->∃j b,p=(aA (i+j),some b)/\bs[j]? = some b
 | b::bs,i,p,h=>by
  rcases List.mem_cons.1 h with rfl|h
  ·exact⟨0,b,rfl,rfl⟩
  ·obtain ⟨j,b',h1,h2⟩:=x8 h
   exact⟨j+1,b',by rw [h1];congr 2;omega,by simpa using h2⟩
theorem IC:∀(bs:List Box) (i:Nat),((qW i bs).map (·.1)).Nodup
 | [],_=>List.nodup_nil
 | b::bs,i=>by
  refine List.nodup_cons.2 ⟨λh => ?_,IC bs (i+1)⟩
  obtain ⟨p,f,he⟩:=List.mem_map.1 h
  obtain ⟨j,b',h1,_⟩:=x8 f
  rw [h1]at he
  simp only [aA,Prod.mk.injEq,and_true]at he
  omega
theorem FnM.of_wH {P:Program} {f:FuncId} {fn:Func} {body:Code} (C:Cfg) (M:C.P=P) (N:P.funcs[f]? = some fn) (hb:fn.body=some body) (L:C.n=fn.ntmps)
  {args:List V} {Sin:List Box} {r:V} {Sout:List (Option Box)} (hl:args.length<=fn.ntmps) (o:tC C body=true)
  (h:wH C body (qI C fn.results.toList Sin.length r Sout) (PZ args) (qW 0 Sin)):FnM P f args Sin r Sout:=by
 refine FnM.of_wpD' N hb M L hl ?_
 obtain ⟨J,F,I⟩:=h o (kS Sin) 1 ⟨Nat.one_pos,IC _ _,λp B=>by
  obtain ⟨j,b,rfl,hb⟩:=x8 B
  refine⟨Nat.one_pos,λx A => ?_⟩
  simp only [so_]at A
  subst A
  rw [Gq,Nat.zero_add];exact hb⟩
 exact⟨J,F,mW body (λe σ h=>PL h) I⟩
end
end Go.Eng

/-
  THE PLAIN FORMS: how a round ends, loops over a list, loops in general; and what a walk asks of them.
-/
namespace Go.Eng
set_option linter.unusedSectionVars false
variable [DM]
set_option linter.unusedVariables false
inductive Ctl (σ ρ:Type) where
 | go (s:σ)
 | brk (s:σ)
 | ret (r:ρ)
def forR {α σ ρ:Type} (body:Nat->α->σ->Option (Ctl σ ρ)):List α->Nat->σ->Option (Ctl σ ρ)
 | [],_,s=>some (.go s)
 | x::xs,k,s=>(body k x s).bind λc=>match c with
  | .go f=>forR body xs (k+1) f
  | .brk f=>some (.go f)
  | .ret r=>some (.ret r)
def forL {α σ ρ:Type} (xs:List α) (s:σ) (body:Nat->α->σ->Option (Ctl σ ρ)):Option (Ctl σ ρ):=if xs.length<=1000000000000 then forR body xs 0 s else none
def iterN {σ ρ:Type} (body:σ->Option (Ctl σ ρ)):Nat->σ->Option (Ctl σ ρ)
 | 0,_=>none
 | n+1,s=>(body s).bind λc=>match c with
  | .go f=>iterN body n f
  | .brk f=>some (.go f)
  | .ret r=>some (.ret r)
open Classical in
noncomputable def dS {σ ρ:Type} (s:σ) (body:σ->Option (Ctl σ ρ)):Option (Ctl σ ρ):=if h:∃n o,iterN body n s=some o then some h.choose_spec.choose else none
theorem bv {σ ρ:Type} {s:σ} {body:σ->Option (Ctl σ ρ)} {o:Ctl σ ρ} (h:dS s body=some o):∃n,iterN body n s=some o:=by
 unfold dS at h
 split at h
 ·rename_i f
  simp only [so_]at h
  exact⟨f.choose,by rw [f.choose_spec.choose_spec,h]⟩
 ·cases h
theorem CR {σ ρ:Type} {body:σ->Option (Ctl σ ρ)}:∀{n:Nat} {s:σ} {o:Ctl σ ρ} (m:Nat),iterN body n s=some o->n<=m->iterN body m s=some o
 | 0,_,_,_,h,_=>by cases h
 | n+1,s,o,0,h,f=>by omega
 | n+1,s,o,m+1,h,f=>by
  simp only [iterN,Option.bind_eq_some_iff]at h ⊢
  obtain ⟨c,h1,h2⟩:=h
  refine⟨c,h1,?_⟩
  cases c with
  | go j=>exact CR m h2 (by omega)
  | brk j=>exact h2
  | ret r=>exact h2
theorem dB {σ ρ:Type} {s:σ} {body:σ->Option (Ctl σ ρ)} {o:Ctl σ ρ} {n:Nat} (h:iterN body n s=some o):dS s body=some o:=by
 have f:∃n o,iterN body n s=some o:=⟨n,o,h⟩
 unfold dS
 rw [dif_pos f]
 have h1:=f.choose_spec.choose_spec
 have h2:=CR (max n f.choose) h1 (Nat.le_max_right _ _)
 rw [CR (max n f.choose) h (Nat.le_max_left _ _)]at h2
 exact h2.symm
theorem bind_some {α β:Type} {x:Option α} {f:α->Option β} {r:β} (h:x.bind f=some r):∃a,x=some a/\f a=some r:=Option.bind_eq_some_iff.1 h
theorem aj {α:Type} {c:Bool} {x y:Option α} {r:α} (h:(bif c then x else y)=some r):(c=true/\x=some r)\/(c=false/\y=some r):=by
 cases c with
 | true=>exact .inl ⟨rfl,h⟩
 | false=>exact .inr ⟨rfl,h⟩
theorem aY {α σ ρ:Type} {xs:List α} {s:σ} {body:Nat->α->σ->Option (Ctl σ ρ)} {o:Ctl σ ρ} (h:forL xs s body=some o):xs.length<=1000000000000/\forR body xs 0 s=some o:=by
 unfold forL at h
 split at h
 ·exact⟨‹_›,h⟩
 ·cases h
theorem drop_nil {α:Type} {xs:List α} {k:Nat} (h:xs.drop k=[]):decide ((k:Int)<(xs.length:Int))=false:=by
 have:=List.drop_eq_nil_iff.1 h
 simp;omega
theorem Ga {α:Type} {xs l:List α} {x:α} {k:Nat} (h:xs.drop k=x::l):k<xs.length:=by
 have h1:(xs.drop k).length=(x::l).length:=by rw [h]
 simp at h1;omega
theorem bu {α:Type} {xs l:List α} {x:α} {k:Nat} (h:xs.drop k=x::l):decide ((k:Int)<(xs.length:Int))=true:=by
 have:=Ga h
 simp;omega
theorem bI {α:Type} {xs l:List α} {x:α} {k:Nat} (h:xs.drop k=x::l):idx xs (k:Int)=some x:=by
 have h1:(xs.drop k)[0]? = some x:=by rw [h];rfl
 rw [List.getElem?_drop]at h1
 simp only [idx]
 rw [if_pos (by omega)]
 simpa using h1
theorem yz {α:Type} {xs l:List α} {x:α} {k:Nat} (h:xs.drop k=x::l):xs[k]? = some x:=by
 have h1:(xs.drop k)[0]? = some x:=by rw [h];rfl
 rw [List.getElem?_drop]at h1
 simpa using h1
theorem aX {α:Type} {xs l:List α} {x:α} {k:Nat} (h:xs.drop k=x::l):xs.drop (k+1)=l:=by
 have h1:(xs.drop k).drop 1=l:=by rw [h];rfl
 rwa [List.drop_drop]at h1
theorem Ep (n:Int) (h : -9223372036854775808<=n/\n<=9223372036854775807):w64 n=n:=IntWalk.i64_in n h
theorem bz {α:Type} {xs l:List α} {x:α} {k:Nat} (h:xs.drop k=x::l) (hl:xs.length<=1000000000000):w64 ((k:Int)+1)=((k+1:Nat):Int):=by
 have:=Ga h
 rw [Ep _ (by omega)];omega
theorem dH {C:Cfg} {sl:Nat->V} {H:Hp} {q:Qm} {all rest:List Oper} {K:(Nat->V)->Hp->Prop} {dst:Option Tmp} {ty:TypeId} {pos:String} {after:Array Edge} {g:Option (Nat×Bool)} {op:Op} {a b:Int} (e:w64 a=b)
  (f:aQ all sl ⟨dst,op,ty,pos,after,g⟩=some true) (j:Fs C sl op=some (vI (w64 a))) (h:aZ q C all K rest (dI sl dst (vI b)) H):aZ q C all K (⟨dst,op,ty,pos,after,g⟩::rest) sl H :=
 aL _ f j (by rw [e];exact h)
end Go.Eng

/-
  THE ENGINE: what the printed proofs use besides.
-/
namespace Go.Eng
set_option linter.unusedSectionVars false
variable [DM]
set_option linter.unusedVariables false
set_option linter.unusedSimpArgs false
def eK (k:IntKind) (n:Int):List D:=[.int k n]
def eL {α:Type} (enc:α->List D) (xs:List α):List D:=[dl enc xs]
abbrev sEq (a b:ByteArray):Bool:=a.toList==b.toList
abbrev sNe (a b:ByteArray):Bool := !(a.toList==b.toList)
abbrev sLt (a b:ByteArray):Bool:=Op.bytesLess a.toList b.toList
abbrev sLe (a b:ByteArray):Bool:=Op.bytesLess a.toList b.toList||a.toList==b.toList
abbrev K5 (a b:Int):Int:=if b<a then b else a
abbrev jI (a b:Int):Int:=if b>a then b else a
abbrev EF (k:IntKind) (a b:Int):Int:=k.wrap (BitVec.ofInt k.bits a &&& BitVec.ofInt k.bits b).toNat
abbrev vM (k:IntKind) (a b:Int):Int:=k.wrap (BitVec.ofInt k.bits a ^^^ BitVec.ofInt k.bits b).toNat
def Lv (k:IntKind) (a b:Int):Option Int:=if b=0 then none else some (k.wrap (a.tdiv b))
def Nk (k:IntKind) (a b:Int):Option Int:=if b=0 then none else some (a.tmod b)
def shlO (k:IntKind) (a b:Int):Option Int:=if b<0 then none else some (k.wrap (a*2 ^ (min b.toNat k.bits)))
def LH (k:IntKind) (a b:Int):Option Int:=if b<0 then none else some (a.fdiv (2 ^ (min b.toNat k.bits)))
def z8 (s:ByteArray) (i:Int):Option UInt8:=if 0<=i then s[i.toNat]? else none
def Km (s:ByteArray) (lo hi:Int):Option ByteArray:=if 0<=lo/\0<=hi/\lo.toNat<=hi.toNat/\hi.toNat<=s.size then some (s.extract lo.toNat hi.toNat)else none
def Nq {α:Type} (xs:List α) (lo hi:Int):Option (List α):=if 0<=lo/\0<=hi/\lo.toNat<=hi.toNat/\hi.toNat<=xs.length then some ((xs.take hi.toNat).drop lo.toNat)else none
def inR {α:Type} (i:Int) (xs:List α):Option Unit:=if 0<=i/\i.toNat<xs.length then some ()else none
theorem ik {α:Type} {i:Int} {xs:List α} {u:Unit} (h:inR i xs=some u):0<=i:=by
  unfold inR at h;split at h
  · rename_i h1;exact h1.1
  · cases h
theorem dN {α:Type} {i:Int} {xs:List α} {u:Unit} (h:inR i xs=some u):i.toNat<xs.length:=by
  unfold inR at h;split at h
  · rename_i h1;exact h1.2
  · cases h
def thenC {σ ρ τ:Type} (o:Ctl σ ρ) (f:σ->Option τ) (g:ρ->Option τ):Option τ:=match o with
  | .go s=>f s
  | .brk _=>none
  | .ret r=>g r
theorem lH {n:Int} {k:Nat} (h:(List.range n.toNat).drop k=[]):decide ((k:Int)<n)=false:=by
  have:=List.drop_eq_nil_iff.1 h
  simp at this
  simp;omega
theorem jZ {n:Int} {k x:Nat} {l:List Nat} (h:(List.range n.toNat).drop k=x::l):decide ((k:Int)<n)=true:=by
  have:=Ga h
  simp at this
  simp;omega
theorem lF {n:Int} {k x:Nat} {l:List Nat} (h:(List.range n.toNat).drop k=x::l) (hl:(List.range n.toNat).length<=1000000000000):w64 ((k:Int)+1)=((k+1:Nat):Int):=bz h hl
theorem ae {α:Type} {a b:α} (h:some a=some b):a=b:=Option.some.inj h
section
variable {C:Cfg} {sl:Nat->V} {H:Hp} {Q:QH} {c:Code}
theorem yF (H:Hp):pre H H:=aG List.take_length
theorem aW {β:Type} {f:β->List (Nat×V)} {h:β->Hp} {R:β->Prop} (x:β) (j:R x) (he:pick (f x) sl=f x) (o:pre (h x) H):KL f h R sl H:=⟨x,j,he,o⟩
theorem cu {f:Unit->List (Nat×V)} {h:Unit->Hp} (he:pick (f ()) sl=f ():=by rfl) (j:H.take (h ()).length=h ():=by rfl):KL f h (λ_=>True) sl H:=aW () trivial he (aG j)
theorem aV {β:Type} {f:β->List (Nat×V)} {h:β->Hp} {R:β->Prop} {m:β->Nat} {x:β} (x':β) (o:R x') (j:m x'<m x) (he:pick (f x') sl=f x') (A:pre (h x') H):loopE f h R m x sl H:=⟨x',o,j,he,A⟩
theorem Gl {α:Type} {enc:α->List D} {xs:List α} {sz:Nat} {n:Nm} (i:Nat) (h:H[i]? = some (n,some (bV sz enc xs))) (o:wH C c Q sl (H.set i (n,some (bF sz enc xs)))):wH C c Q sl H :=
  wT o (λS t f=>⟨freezeAll S [n],Gst.froz ⟨sl,S,t⟩ n,by rw [freeze1 (f.get h)];exact f.set h (λx j=>j)⟩)
theorem iq {α:Type} {enc:α->List D} {xs:List α} {sz:Nat} {n:Nm} (i:Nat) (h:H[i]? = some (n,gB sz enc xs)) (f:wH C c Q sl (H.set i (n,gF sz enc xs))):wH C c Q sl H:=by
  cases xs with
  | nil=>exact wT f (λS t j=>⟨S,.refl _,j.drop h⟩)
  | cons x xs=>exact Gl i h f
theorem EY {α:Type} {enc:α->List D} {xs:List α} {sz:Nat} {n:Nm} (k i:Nat) (B:sl k=vV n sz xs) (h:H[i]? = some (n,some (bF sz enc xs))) (o:wH C c Q (upd sl k (vL enc xs)) H):wH C c Q sl H :=
  wT o (λS t f=>⟨S,by
    have:=Gst.co ⟨sl,S,t⟩ k
    have e:co S (sl k)=vL enc xs:=by
      rw [B]
      have A:=f.get h
      have h1:Nat.beq sz sz=true:=Nat.beq_refl sz
      have h2:Nat.ble xs.length xs.length=true:=Nat.ble_eq_true_of_le (Nat.le_refl _)
      have j:(xs.map enc).take xs.length=xs.map enc:=List.take_of_length_le (by simp)
      simp [co,co1,A,h1,h2,j]
    simp only [e]at this
    exact this,f⟩)
theorem cO {α:Type} {enc:α->List D} {xs:List α} {sz:Nat} {n:Nm} (k i:Nat) (j:sl k=gV n sz xs) (h:H[i]? = some (n,gF sz enc xs)) (f:wH C c Q (upd sl k (vL enc xs)) H):wH C c Q sl H:=by
  cases xs with
  | nil =>
    refine wT f (λS t o=>⟨S,?_,o⟩)
    have:=Gst.co ⟨sl,S,t⟩ k
    have e:co S (sl k)=vL enc ([]:List α):=by rw [j];rfl
    simp only [e]at this
    exact this
  | cons x xs=>exact EY k i j h f
theorem Bu {α:Type} (enc:α->List D) (k:Nat) (j:sl k = .nil) (f:wH C c Q (upd sl k (vL enc [])) H):wH C c Q sl H :=
  wT f (λS t h=>⟨S,by
    have:=Gst.co ⟨sl,S,t⟩ k
    have e:co S (sl k)=vL enc ([]:List α):=by rw [j];rfl
    simp only [e]at this
    exact this,h⟩)
end
section
variable {C:Cfg} {sl:Nat->V} {H:Hp} {q:Qm} {all rest:List Oper} {K:(Nat->V)->Hp->Prop}
variable {dst:Option Tmp} {d:Nat} {t ty:TypeId} {pos:String} {after:Array Edge} {g:Option (Nat×Bool)}
theorem rY {s e:TypeId} {x:Operand} {k k':IntKind} {n:Int} {u:TypeDesc} (h1:C.P.underlying s=some u) (h2:C.P.underlying e=some (.int k)) (f:ev sl x = .d (.int k' n))
    (j:aQ all sl ⟨dst,.convert s e x,ty,pos,after,g⟩=some true) (h:aZ q C all K rest (dI sl dst (.d (.int k (k.wrap n)))) H):aZ q C all K (⟨dst,.convert s e x,ty,pos,after,g⟩::rest) sl H :=
  aL _ j (by show zI C.P s e (ev sl x)=_;rw [f];simp only [zI,h1,h2]) h
theorem PX {e e':TypeId} {x y:Operand} {k:IntKind} {a b c:Int} (f:ev sl x = .d (.int k a)) (j:ev sl y = .d (.int k b)) (hc:Lv k a b=some c) (o:aQ all sl ⟨dst,.binOp .quo e x y e',ty,pos,after,g⟩=some true)
    (h:aZ q C all K rest (dI sl dst (.d (.int k c))) H):aZ q C all K (⟨dst,.binOp .quo e x y e',ty,pos,after,g⟩::rest) sl H :=
  aL _ o (by
    refine yE ?_
    show sH C.P .quo e (ev sl x) (ev sl y)=_
    rw [f,j]
    unfold Lv at hc
    split at hc
    · cases hc
    · rename_i hb;simp only [so_]at hc;subst hc;simp [sH,I7,Jg,Nf,hb]) h
theorem Tt {e e':TypeId} {x y:Operand} {k:IntKind} {a b c:Int} (f:ev sl x = .d (.int k a)) (j:ev sl y = .d (.int k b)) (hc:Nk k a b=some c) (o:aQ all sl ⟨dst,.binOp .rem e x y e',ty,pos,after,g⟩=some true)
    (h:aZ q C all K rest (dI sl dst (.d (.int k c))) H):aZ q C all K (⟨dst,.binOp .rem e x y e',ty,pos,after,g⟩::rest) sl H :=
  aL _ o (by
    refine yE ?_
    show sH C.P .rem e (ev sl x) (ev sl y)=_
    rw [f,j]
    unfold Nk at hc
    split at hc
    · cases hc
    · rename_i hb;simp only [so_]at hc;subst hc;simp [sH,I7,Jg,Nf,hb]) h
theorem h_shl {e e':TypeId} {x y:Operand} {k k':IntKind} {a b c:Int} (f:ev sl x = .d (.int k a)) (j:ev sl y = .d (.int k' b)) (hc:shlO k a b=some c) (o:aQ all sl ⟨dst,.binOp .shl e x y e',ty,pos,after,g⟩=some true)
    (h:aZ q C all K rest (dI sl dst (.d (.int k c))) H):aZ q C all K (⟨dst,.binOp .shl e x y e',ty,pos,after,g⟩::rest) sl H :=
  aL _ o (by
    refine yE ?_
    show sH C.P .shl e (ev sl x) (ev sl y)=_
    rw [f,j]
    unfold shlO at hc
    split at hc
    · cases hc
    · rename_i hb;simp only [so_]at hc;subst hc;simp [sH,I7,Jg,Ul,hb]) h
theorem Mt {e e':TypeId} {x y:Operand} {k k':IntKind} {a b c:Int} (f:ev sl x = .d (.int k a)) (j:ev sl y = .d (.int k' b)) (hc:LH k a b=some c) (o:aQ all sl ⟨dst,.binOp .shr e x y e',ty,pos,after,g⟩=some true)
    (h:aZ q C all K rest (dI sl dst (.d (.int k c))) H):aZ q C all K (⟨dst,.binOp .shr e x y e',ty,pos,after,g⟩::rest) sl H :=
  aL _ o (by
    refine yE ?_
    show sH C.P .shr e (ev sl x) (ev sl y)=_
    rw [f,j]
    unfold LH at hc
    split at hc
    · cases hc
    · rename_i hb;simp only [so_]at hc;subst hc;simp [sH,I7,Jg,Ul,hb]) h
theorem pR {e e':TypeId} {x y:Operand} {a b c:ByteArray} (f:ev sl x=vS a) (j:ev sl y=vS b) (hc:sJ a b=some c) (o:aQ all sl ⟨dst,.binOp .add e x y e',ty,pos,after,g⟩=some true)
    (h:aZ q C all K rest (dI sl dst (vS c)) H):aZ q C all K (⟨dst,.binOp .add e x y e',ty,pos,after,g⟩::rest) sl H :=
  aL _ o (by
    refine yE ?_
    show sH C.P .add e (ev sl x) (ev sl y)=_
    rw [f,j]
    unfold sJ at hc
    split at hc
    · cases hc
    · rename_i hb;simp only [so_]at hc;subst hc;simp only [sH,I7,PV,if_neg hb,Option.map_some]) h
theorem SF {e e':TypeId} {x y:Operand} {a b:Bool} (A:C.P.underlying e=some .bool) (f:ev sl x=vB a) (j:ev sl y=vB b) (o:aQ all sl ⟨dst,.binOp .neq e x y e',ty,pos,after,g⟩=some true)
    (h:aZ q C all K rest (dI sl dst (vB (!(a==b)))) H):aZ q C all K (⟨dst,.binOp .neq e x y e',ty,pos,after,g⟩::rest) sl H :=
  aL _ o (by refine yE ?_;show sH C.P .neq e (ev sl x) (ev sl y)=_;rw [f,j];simp only [sH,A]) h
theorem zg {x i:Operand} {s:ByteArray} {k:IntKind} {n:Int} {b:UInt8} (A:C.P.underlying t=some .string) (j:ev sl x=vS s) (hi:ev sl i = .d (.int k n)) (hb:z8 s n=some b) (o:aQ all sl ⟨dst,.index t x i,ty,pos,after,g⟩=some true)
    (h:aZ q C all K rest (dI sl dst (.d (.int .u8 (b.toNat:Int)))) H):aZ q C all K (⟨dst,.index t x i,ty,pos,after,g⟩::rest) sl H :=
  aL _ o (by
    show Ah C.P t (ev sl x) (ev sl i)=_
    rw [j,hi]
    unfold z8 at hb
    split at hb
    · rename_i f;simp [Ah,A,f,hb]
    · cases hb) h
section sub
variable {x l hi:Operand} {s r:ByteArray} {k k':IntKind} {a b:Int}
theorem sub_val (j:C.P.underlying t=some .string) {lo hi:Option V} {l h:Int} (h1:rD 0 lo=some l.toNat/\0<=l) (h2:rD s.size hi=some h.toNat/\0<=h) (f:Km s l h=some r):mo C.P t (vS s) lo hi none=some (vS r):=by
  unfold Km at f
  split at f
  · rename_i hc;simp only [so_]at f;subst f
    simp [mo,j,h1.1,h2.1,hc.2.2.1,hc.2.2.2]
  · cases f
theorem Gj {s r:ByteArray} {l h:Int} (f:Km s l h=some r):0<=l/\0<=h:=by
  unfold Km at f;split at f
  · rename_i hc;exact⟨hc.1,hc.2.1⟩
  · cases f
theorem JB {d:Nat} {k:IntKind} {a:Int} (h:0<=a):rD d (some (.d (.int k a)))=some a.toNat:=by simp [rD,h]
theorem I6 (B:C.P.underlying t=some .string) (A:ev sl x=vS s) (hl:ev sl l = .d (.int k a)) (o:ev sl hi = .d (.int k' b)) (f:Km s a b=some r) (j:aQ all sl ⟨dst,.slice t x (some l) (some hi) none,ty,pos,after,g⟩=some true)
    (h:aZ q C all K rest (dI sl dst (vS r)) H):aZ q C all K (⟨dst,.slice t x (some l) (some hi) none,ty,pos,after,g⟩::rest) sl H :=
  aL _ j (by
    show mo C.P t (ev sl x) (some (ev sl l)) (some (ev sl hi)) none=_
    rw [A,hl,o];exact sub_val B ⟨JB (Gj f).1,(Gj f).1⟩ ⟨JB (Gj f).2,(Gj f).2⟩ f) h
variable {α:Type} {enc:α->List D} {xs ys:List α} {e:TypeId} {sz:Nat}
theorem Tw (A:C.P.underlying t=some (.slice e)) (hs:szT C.P e=some sz) (f:∀y,(enc y).length=sz) {lo hi:Option V} {l h:Int} (h1:rD 0 lo=some l.toNat) (h2:rD xs.length hi=some h.toNat) (o:Nq xs l h=some ys):mo C.P t (vL enc xs) lo hi none=some (vL enc ys):=by
  unfold Nq at o
  split at o
  · rename_i hc;simp only [so_]at o;subst o
    have j:=Dc (sz:=sz) f xs
    simp only [mo,A,hs,h1,List.length_map,h2]
    rw [if_pos ⟨hc.2.2.1,hc.2.2.2,j⟩]
    simp [List.map_drop,List.map_take]
  · cases o
theorem SG {l h:Int} (f:Nq xs l h=some ys):0<=l/\0<=h:=by
  unfold Nq at f;split at f
  · rename_i hc;exact⟨hc.1,hc.2.1⟩
  · cases f
theorem FZ (B:C.P.underlying t=some (.slice e)) (hs:szT C.P e=some sz) (f:∀y,(enc y).length=sz) (o:ev sl x=vL enc xs) (hl:ev sl l = .d (.int k a)) (j:Nq xs a xs.length=some ys) (A:aQ all sl ⟨dst,.slice t x (some l) none none,ty,pos,after,g⟩=some true)
    (h:aZ q C all K rest (dI sl dst (vL enc ys)) H):aZ q C all K (⟨dst,.slice t x (some l) none none,ty,pos,after,g⟩::rest) sl H :=
  aL _ A (by
    show mo C.P t (ev sl x) (some (ev sl l)) none none=_
    rw [o,hl];exact Tw B hs f (JB (SG j).1) rfl j) h
end sub
theorem h_appn {α:Type} {enc:α->List D} {ys zs:List α} {x y:Operand} {t' e e':TypeId} {sz bytes:Nat} {z:List V} (p:Nat) (T:q=none\/Nat.beq all.length (p+(rest.length+1))=true) (he:bG C.P t=some e) (o:bG C.P t'=some e') (hs:szT C.P e=some sz) (hz:zeroCells C.P e=some z) (hzl:z.length=sz) (f:0<sz) (Z:fI C.P e=bytes) (N:bytes<=100000)
    (I:∀y,(enc y).length=sz) (M:ev sl x = .nil) (hy:ev sl y=vL enc ys) (B:kv [] ys=some zs)
    (hw:aQ all sl ⟨some d,.call ⟨.builtin .append,#[x,y],#[t,t']⟩,ty,pos,after,g⟩=some true)
    (h:∀R:Nm,aZ (pO q p [R] true) C all K rest (upd sl d (gV R sz zs)) (H++[(R,gB sz enc zs)])):aZ q C all K (⟨some d,.call ⟨.builtin .append,#[x,y],#[t,t']⟩,ty,pos,after,g⟩::rest) sl H:=by
  unfold kv at B
  split at B
  case isFalse=>cases B
  rename_i O
  simp only [so_,List.nil_append]at B
  subst B
  refine vH rfl p [] T (λ_ _ _=>yM) (λm hm=>by cases hm) hw (λS tk K' ok W L => ?_)
  have j:=Dc (sz:=sz) I ys
  have J:z.length=sz/\0<sz:=⟨hzl,f⟩
  have F:∀m,m<=1000000000->(2*m+192)*fI C.P e<=2 ^ 48/\m<=2 ^ 48:=λm hm=>by
    rw [Z]
    have:=Nat.mul_le_mul (show 2*m+192<=2000000192 by omega) N
    exact⟨by omega,by omega⟩
  have run:∀{A:Eff},mf C.P t t' S (ev sl x) (ev sl y) d tk=some A->K' A->opD C ⟨some d,.call ⟨.builtin .append,#[x,y],#[t,t']⟩,ty,pos,after,g⟩ sl S tk K':=λB L=>zq (by show (bif qb C.P t' then _ else _)=_;rw [AZ o,cond_false];exact B) L
  cases ys with
  | nil =>
    refine run (A:=⟨[],[],.nil⟩) ?_ (L _ (H++[((d,tk),none)]) _ (.inl rfl) ⟨by simp,by simp⟩ ?_ (h (d,tk)))
    · rw [M,hy]
      simp only [mf,he,yx o,hs,hz,if_pos J,nD,rH,j,if_true]
      rw [if_pos (F _ (by simp))]
      rfl
    · have:=W.new ok rfl (.vec 0 [])
      refine⟨this.pos,by have:=this.nd;simpa using this,λp f => ?_⟩
      rcases List.mem_append.1 f with f|f
      · exact W.tail.at_ p f
      · simp only [List.mem_singleton]at f
        subst f
        exact⟨(this.at_ ((d,tk),some (.vec 0 [])) (by simp)).1,λx M=>by cases M⟩
  | cons Y ys =>
    refine run (A:=⟨[],[((d,tk),some (.vec sz ((Y::ys).map enc)))],.vs (d,tk) sz 0 (Y::ys).length⟩) ?_ (L _ (H++[((d,tk),gB sz enc (Y::ys))]) _ (.inl rfl) ⟨by simp,by simp⟩ (W.new ok rfl _) (h (d,tk)))
    rw [M,hy]
    simp only [mf,he,yx o,hs,hz,if_pos J,nD,rH,j,if_true]
    rw [if_pos (F _ (by simpa using O))]
    simp
theorem sQ:∀(bs:List Box) (i j:Nat) (h:j<bs.length),(qW i bs)[j]? = some (aA (i+j),some bs[j])
  | b::bs,i,0,h=>rfl
  | b::bs,i,j+1,h=>by
    show (qW (i+1) bs)[j]? = _
    rw [sQ bs (i+1) j (by simpa using h)]
    simp [Nat.add_assoc,Nat.add_comm 1 j]
theorem Ab {k:Nat}:∀n,okN k n=true->AU ((List.range k).map aA) n=n:=by
  intro n f
  obtain ⟨i,hi,rfl⟩:=xe f
  rw [wX (by simpa using hi)];simp
theorem Er {k:Nat} {b:Box} (h:b.ok k=true):b.ren ((List.range k).map aA)=b:=by
  cases b with
  | cells sz cs=>simp only [Box.ok]at h;simp only [Box.ren,yN _ k Ab _ h]
  | pmap es =>
    simp only [Box.ren,Box.pmap.injEq]
    exact (List.map_congr_left (λe he=>by rw [Ci _ k Ab e.2 (List.all_eq_true.1 h e he)];rfl)).trans (List.map_id _)
  | iter cur left =>
    simp only [Box.ok,Bool.and_eq_true]at h
    simp only [Box.ren,Box.iter.injEq]
    refine⟨?_,(List.map_congr_left (λe he=>by rw [Ci _ k Ab e.2 (List.all_eq_true.1 h.2 e he)];rfl)).trans (List.map_id _)⟩
    cases cur with
    | none=>rfl
    | some x=>simp only [Option.map_some,Ci _ k Ab x.2 (by simpa using h.1)]
  | _=>rfl
theorem ER {k:Nat} {S:Store}:∀{ns:List Nm} {bs:List Box},(∀b∈bs,b.ok k=true)->(∀j (h1:j<ns.length) (h2:j<bs.length),S ns[j]=some bs[j])->fo S (eD ((List.range k).map aA) ns (bs.map some))=S
  | [],[],_,_=>rfl
  | [],_::_,_,_=>rfl
  | _::_,[],_,_=>rfl
  | n::ns,b::bs,hb,h=>by
    simp only [List.map_cons,eD,fo,Option.map_some]
    have e:supd S n (some (b.ren ((List.range k).map aA)))=S:=by
      rw [Er (hb b (by simp))]
      funext m
      simp only [supd]
      split
      · rename_i o;rw [o];exact (h 0 (by simp) (by simp)).symm
      · rfl
    rw [e]
    exact ER (λb f=>hb b (by simp [f])) (λj h1 h2=>h (j+1) (by simpa using h1) (by simpa using h2))
theorem Gn {f:Operand} {args:List Operand} {J:Array TypeId} {fn:FuncId} {caps o:List V} {r:V} {Sin:List Box} (hc:FnM C.P fn o Sin r (Sin.map some)) (hf:ev sl f = .fn fn caps) (hb:aJ C.P fn=true)
    (L:(args.map (ev sl)).flatMap frz=[]) (ha:(args.map (ev sl)).map co0++caps=o) (hcap:caps.flatMap frz=[]/\caps.map co0=caps) (F:okL Sin.length o=true) (M:∀b∈Sin,b.ok Sin.length=true) (hm:∀b∈Sin,b.mut=true)
    (W:okV 0 r=true)
    (hw:aQ all sl ⟨some d,.call ⟨.value f,args.toArray,J⟩,ty,pos,after,g⟩=some true) (Z:H=qW 0 Sin) (h:aZ none C all K rest (upd sl d r) H):aZ none C all K (⟨some d,.call ⟨.value f,args.toArray,J⟩,ty,pos,after,g⟩::rest) sl H:=by
  subst Z
  refine NU hw (λS tk K' ok T hk=>wL hf ?_)
  have I:(args.map (ev sl)++caps).flatMap frz=[]:=by rw [List.flatMap_append,L,hcap.1];rfl
  have A:∀j (h:j<Sin.length),S (aA j)=some Sin[j]:=λj h=>by
    have:=sQ Sin 0 j h
    rw [Nat.zero_add]at this
    exact T.get this
  have B:(args.map (ev sl)++caps).map (co S)=renL ((List.range Sin.length).map aA) o:=by
    rw [Ck I,List.map_append,hcap.2,ha,yN _ _ Ab _ F]
  refine .inl ⟨hb,⟨[],(List.range Sin.length).map aA,o,Sin,r,Sin.map some,false⟩,?_,(λe=>by cases e),?_⟩
  · exact { does := hc
            args:=ArgsOK.of_map B
            okA:=by simp only [List.length_map,List.length_range];exact F
            nodup:=by
              refine List.Pairwise.map _ (λx y N e => ?_) List.nodup_range
              simp only [aA,Prod.mk.injEq,and_true]at e
              exact N (by omega)
            ins:=by
              refine yj (by simp) (λj h1 h2=>⟨by simp only [List.length_map,List.length_range];exact M _ (List.getElem_mem h2),?_⟩)
              rw [Er (M _ (List.getElem_mem h2))]
              simp only [List.getElem_map,List.getElem_range]
              exact A j h2
            len:=by simp
            okR:=wS (Nat.zero_le _) _ W
            okO:=by
              have:∀{l:List Box} {k:Nat},(∀b∈l,b.ok k=true)->okOut k (l.map some)=true:=by
                intro l k
                induction l with
                | nil=>exact λ_=>rfl
                | cons b l Y=>exact λh=>by simp only [List.map_cons,okOut,Bool.and_eq_true];exact⟨h b (by simp),Y (λx hx=>h x (by simp [hx]))⟩
              exact this (by simpa using M)
            mutN:=by
              show mutOut ((Sin.map some).drop Sin.length)=true
              rw [List.drop_of_length_le (by simp)];rfl
            roOK:=(λe=>by cases e),have_:=(λn L=>nomatch L),cov:=(λn R=>by rw [I]at R;cases R),dis:=(λn _ L=>nomatch L) }
  · have O:(Sin.map some).length-Sin.length=0:=by simp
    have e1:CallData.eff ⟨[],(List.range Sin.length).map aA,o,Sin,r,Sin.map some,false⟩ S d tk=⟨(((List.range Sin.length).map aA).zip Sin).map (λp=>(p.1,p.2.ren ((List.range Sin.length).map aA))),eD ((List.range Sin.length).map aA) ((List.range Sin.length).map aA) (Sin.map some),r⟩:=by
      simp only [CallData.eff,cond_false,CallData.names,O,ou,List.range_zero,List.map_nil,List.append_nil,ic,ig,List.nil_append,wW W]
    show K' (CallData.eff _ S d tk)
    rw [e1]
    refine hk _ (qW 0 Sin) ?_ h
    show AgR _ (fo S (eD _ ((List.range Sin.length).map aA) (Sin.map some))) tk rest
    rw [ER (λb hb=>M b hb) (λj h1 h2=>by simp only [List.getElem_map,List.getElem_range];exact A j h2)]
    exact T.tail
theorem QY {A:List ResultVar} {r:V} {e:Exit} {Sin:List Box} (I:∀b∈Sin,b.ok Sin.length=true) (he:e = .normal\/e = .ret) (vs:List V) (h1:GX C sl (qW 0 Sin) A vs) (h2:vs.flatMap frz=[]) (F:Jp (vs.map co0)=r) (J:okV 0 r=true):qI C A Sin.length r (Sin.map some) e sl (qW 0 Sin):=by
  have hc:∀{vs:List V},vs.flatMap frz=[]->CoL (qW 0 Sin) vs (vs.map co0):=by
    intro vs
    induction vs with
    | nil=>exact λ_ => .nil
    | cons v vs f=>exact λh => .cons (oh (ww h v (by simp)) rfl) (f (by simp only [List.flatMap_cons,List.append_eq_nil_iff]at h;exact h.2))
  have ho:∀{l:List Box} {k j:Nat} {H:Hp},(∀b∈l,b.ok k=true)->(∀i (h:i<l.length),H[j+i]? = some (aA (j+i),some l[i]))->Ba H ((List.range k).map aA) (List.range' j l.length) ((List.range' j l.length).map aA) (l.map some):=by
    intro l
    induction l with
    | nil=>exact λ_ _=>trivial
    | cons b l f =>
      intro k j H hb o
      simp only [List.length_cons,List.range'_succ,List.map_cons]
      refine⟨?_,f (λx B=>hb x (by simp [B])) (λi hi => ?_)⟩
      · have:=o 0 (by simp)
        simp only [Option.map_some,Er (hb b (by simp))]
        exact this
      · have:=o (i+1) (by simpa using hi)
        rw [show j+1+i=j+(i+1) by omega]
        exact this
  refine⟨he,vs,_,List.range' 0 Sin.length,(List.range' 0 Sin.length).map aA,h1,hc h2,by rw [F,wW J],?_,List.nodup_range' ,λi hi=>by simp [hi]⟩
  have:=ho (k:=Sin.length) (j:=0) (H:=qW 0 Sin) I (λi hi=>by have:=sQ Sin 0 i hi;simpa using this)
  rw [List.range_eq_range']at this
  exact this
end
end Go.Eng

/-
  THE ENGINE: functions without a body; new slices that a call hands back; elements of a slice that began as nil.
-/
namespace Go.Eng
set_option linter.unusedSectionVars false
variable [DM]
set_option linter.unusedVariables false
set_option linter.unusedSimpArgs false
def AB (a b:ByteArray):Int:=Lib.compareBytes a.data.toList b.data.toList
theorem xm.two {G:Gh} {w:World} {f:List Value} {a b:V} (h:xm G w f [a,b]):∃x y,f=[x,y]/\RepV G w x a/\RepV G w y b:=by
 obtain ⟨hl,h⟩:=h
 match f,hl with
 | [x,y],_=>exact⟨x,y,rfl,h 0 (by simp) (by simp),h 1 (by simp) (by simp)⟩
theorem RepV.int_inv {G:Gh} {w:World} {v:Value} {k:IntKind} {n:Int} (h:RepV G w v (.d (.int k n))):v = .int k n:=by
 have:=h.d_inv
 generalize f:D.int k n=x at this
 cases this with
 | int k' j=>cases f;rfl
 | _=>cases f
theorem RepV.str_inv {G:Gh} {w:World} {v:Value} {s:ByteArray} (h:RepV G w v (vS s)):v = .string s:=by
 have:=h.d_inv
 generalize f:D.str s=x at this
 cases this with
 | str j=>cases f;rfl
 | _=>cases f
theorem UA {P : Program} {f : FuncId} {fn : Func} (I : P.funcs[f]? = some fn) (h1 : (fn.name == "runtime.NumGoroutine") = false) (h2 : fn.body.isNone = true) (B : Extern.findNext fn = none) (F : Extern.find fn = some Extern.BytealgCompare.compare)
  (a b:ByteArray):ExtM P f [vS a,vS b] (.int .i64 (AB a b)):=by
 intro G w j h
 obtain ⟨x,y,rfl,A,o⟩:=h.two
 rw [A.str_inv,o.str_inv]
 refine⟨.int .i64 (AB a b),?_,.int _ _⟩
 show (callFunc f #[.string a,.string b]).run P w=_
 rw [run_callFunc_extern I h1 h2 B F,Lib.run_compareString];rfl
theorem SV {Sin:List Box} {k:Nat} (h:Sin.all (λb=>b.ok k)=true):∀b∈Sin,b.ok k=true:=λb hb=>List.all_eq_true.1 h b hb
theorem Qu {Sin:List Box} (h:Sin.all (λb=>b.mut)=true):∀b∈Sin,b.mut=true:=λb hb=>List.all_eq_true.1 h b hb
theorem jg {α:Type} {n:Nm} {sz:Nat} {xs ys:List α} (h:xs.length=ys.length):gV n sz xs=gV n sz ys:=by
 cases xs with
 | nil=>cases ys with
  | nil=>rfl
  | cons y ys=>simp at h
 | cons x xs=>cases ys with
  | nil=>simp at h
  | cons y ys=>simp only [gV,h]
theorem xS {α:Type} {n:Nm} {sz:Nat} {xs ys:List α} (h:xs.length=ys.length):vV n sz xs=vV n sz ys:=by simp only [vV,h]
theorem Ml {α:Type} {n:Nm} {sz:Nat} {xs:List α} (h:xs ≠ []):vV n sz xs=gV n sz xs:=by
 cases xs with
 | nil=>exact absurd rfl h
 | cons x xs=>rfl
def gO {α:Type} (sz:Nat) (enc:α->List D):List α->List (Option Box)
 | []=>[]
 | x::xs=>[some (.vec sz ((x::xs).map enc))]
theorem QO {α:Type} {r:List α} (h:((kv ([]:List α) []).bind λa=>some a)=some r):some ([]:List α)=some r:=by simpa [kv]using h
section
variable {C:Cfg} {sl:Nat->V} {H:Hp} {q:Qm} {all rest:List Oper} {K:(Nat->V)->Hp->Prop}
variable {dst:Option Tmp} {d:Nat} {t ty:TypeId} {pos:String} {after:Array Edge} {g:Option (Nat×Bool)}
theorem bT (k:Nat) {v v':V} (f:sl k=v) (e:v=v') (h:aZ q C all K rest (upd sl k v') H):aZ q C all K rest sl H:=by
 have:upd sl k v'=sl:=by
  funext j
  simp only [upd]
  cases hj:Nat.beq j k with
  | true=>rw [Nat.eq_of_beq_eq_true hj,f,e];rfl
  | false=>rfl
 rw [this]at h;exact h
theorem KT (h:∀n:Nm,aZ q C all K rest sl (H++[(n,none)])):aZ q C all K rest sl H:=λS tk ok j=>by
 have A:∃m:Nat,∀p∈H,p.1.1<m:=by
  clear h j
  induction H with
  | nil=>exact⟨0,λp f=>by cases f⟩
  | cons x H F =>
   obtain ⟨m,o⟩:=F
   refine⟨max m (x.1.1+1),λp f => ?_⟩
   rcases List.mem_cons.1 f with rfl|f
   ·omega
   ·have:=o p f;omega
 obtain ⟨m,o⟩:=A
 refine h (m,0) S tk ok ⟨j.pos,?_,λp f => ?_⟩
 ·rw [List.map_append,List.nodup_append]
  refine⟨j.nd,by simp,λa I b hb e => ?_⟩
  simp only [List.map_cons,List.map_nil,List.mem_singleton]at hb
  obtain ⟨p,f,rfl⟩:=List.mem_map.1 I
  have:=o p f
  rw [e,hb]at this
  exact Nat.lt_irrefl _ this
 ·rcases List.mem_append.1 f with f|f
  ·exact j.at_ p f
  ·simp only [List.mem_singleton]at f
   subst f
   exact⟨.inl j.pos,λx B=>by cases B⟩
theorem Pj {α:Type} {enc:α->List D} {sz:Nat} {xs:List α} {f:Operand} {args:List Operand} {L:Array TypeId} {fn:FuncId} {caps A:List V} {Sin outs:List Box} (o:List Nat) {l:List (Nm×Box)}
  (hc:FnM C.P fn A Sin (gV (aA o.length) sz xs) (outs.map some++gO sz enc xs))
  (O:ev sl f = .fn fn caps) (hb:aJ C.P fn=true) (hl:oU H o=some l) (Y:Sin.map (λb=>b.ren (l.map (·.1)))=l.map (·.2)) (F:Sin.all (λb=>b.ok o.length)=true)
  (Z:((args.map (ev sl)++caps).flatMap frz).all (λn=>false)=true) (ha:(args.map (ev sl)++caps).map co0=renL (l.map (·.1)) A) (J:okL o.length A=true)
  (j:outs.length=o.length) (hi:o.Nodup) (hO:outs.all (λb=>b.ok 0)=true)
  (W:aQ all sl ⟨some d,.call ⟨.value f,args.toArray,L⟩,ty,pos,after,g⟩=some true)
  (T:Hp) (R:∀ν,setH H (Eng.outs ν o (l.map (·.1)) (outs.map some))=T)
  (h:∀n:Nm,aZ none C all K rest (upd sl d (gV n sz xs)) (T++[(n,gB sz enc xs)])) :
  aZ none C all K (⟨some d,.call ⟨.value f,args.toArray,L⟩,ty,pos,after,g⟩::rest) sl H:=by
 have M:=(mD hl).1
 have B:∀{k:Nat} {os:List Box},os.all (λb=>b.ok 0)=true->okOut k (os.map some)=true:=by
  intro k os
  induction os with
  | nil=>exact λ_=>rfl
  | cons b os I =>
   intro h
   simp only [List.all_cons,Bool.and_eq_true]at h
   simp only [List.map_cons,okOut,Bool.and_eq_true]
   exact⟨Box.ok_mono (Nat.zero_le _) h.1,I h.2⟩
 cases xs with
 | nil =>
  have N:FnM C.P fn A Sin .nil (outs.map some):=by simpa [gO,gV]using hc
  refine KN o 0 N O hb hl Y F Z ha J rfl (by simp [j]) hi (B hO) (by rw [List.drop_of_length_le (by simp [j])];rfl) W (λν => ?_)
  simp only [List.range_zero,List.map_nil,List.append_nil,news,R]
  exact KT (λn=>h n)
 | cons x xs =>
  refine KN (r:=gV (aA o.length) sz (x::xs)) (Sout:=outs.map some++[some (.vec sz ((x::xs).map enc))]) o 1 hc O hb hl Y F Z ha J ?_ (by simp [j]) hi ?_ ?_ W (λν => ?_)
  ·exact R3 (by simp [j]) _
  ·have:∀{k:Nat} {a b:List (Option Box)},okOut k a=true->okOut k b=true->okOut k (a++b)=true:=by
    intro k a b
    induction a with
    | nil=>exact λ_ h=>h
    | cons y a I =>
     intro h1 h2
     cases y with
     | none=>exact I h1 h2
     | some y=>simp only [List.cons_append,okOut,Bool.and_eq_true]at h1 ⊢;exact⟨h1.1,I h1.2 h2⟩
   exact this (B hO) rfl
  ·rw [List.drop_append_of_le_length (by simp [j]),List.drop_of_length_le (by simp [j])];rfl
  ·have e1:ren (l.map (·.1)++(List.range 1).map ν) (gV (aA o.length) sz (x::xs))=gV (ν 0) sz (x::xs):=by
    rw [R5,tJ]
    simp [M]
   have e2:∀ν,Eng.outs ν o (l.map (·.1)) (outs.map some++[some (.vec sz ((x::xs).map enc))])=Eng.outs ν o (l.map (·.1)) (outs.map some):=by
    intro ν
    have:∀(o:List Nat) (ns:List Nm) (a b:List (Option Box)),o.length=a.length->Eng.outs ν o ns (a++b)=Eng.outs ν o ns a:=by
     intro o
     induction o with
     | nil=>intro ns a b h;cases a with
      | nil=>cases b <;> rfl
      | cons _ _=>simp at h
     | cons i o I=>intro ns a b h;cases a with
      | nil=>simp at h
      | cons y a=>cases ns with
       | nil=>rfl
       | cons n ns=>simp only [List.cons_append,Eng.outs];rw [I ns a b (by simpa using h)]
    exact this _ _ _ _ (by simp [j])
   rw [e1,e2,R]
   rw [List.drop_append_of_le_length (by simp [j]),List.drop_of_length_le (by simp [j])]
   exact h (ν 0)
theorem yK {α:Type} {xs:List α} {x i:Operand} {k:IntKind} {n:Int} {nm:Nm} {size:Nat} (A:(bG C.P t).bind (szT C.P)=some size) (j:ev sl x=gV nm size xs) (hi:ev sl i = .d (.int k n)) (f:0<=n) (h1:n.toNat<xs.length)
  (o:aQ all sl ⟨dst,.indexAddr t x i,ty,pos,after,g⟩=some true) (h:aZ q C all K rest (dI sl dst (.ref nm (0+n.toNat) 0)) H):aZ q C all K (⟨dst,.indexAddr t x i,ty,pos,after,g⟩::rest) sl H:=by
 cases xs with
 | nil=>simp at h1
 | cons y ys=>exact zO A j hi f h1 o h
theorem kw {α:Type} {enc:α->List D} {xs:List α} {y:α} {x:Operand} {size:Nat} {agg:Bool} {n:Nm} {i j sz:Nat} (p k:Nat) (B:q=none\/Nat.beq all.length (p+(rest.length+1))=true) (L:∀S tk,AgR H S tk (⟨dst,.load t x,ty,pos,after,g⟩::rest)->okQ q all p [n] false) (hs:szT C.P t=some size) (F:bU C.P t=agg) (o:ev sl x = .ref n i j) (I:H[k]? = some (n,gB sz enc xs)) (f:xs[i]? = some y)
  (v:V) (J:rdD agg size ((enc y).drop j)=some v)
  (A:aQ all sl ⟨dst,.load t x,ty,pos,after,g⟩=some true) (h:aZ (pO q p [n] false) C all K rest (dI sl dst v) H):aZ q C all K (⟨dst,.load t x,ty,pos,after,g⟩::rest) sl H:=by
 cases xs with
 | nil=>simp at f
 | cons z zs=>exact Fy p k B L hs F o I f v J A h
theorem sw {α:Type} {enc:α->List D} {xs:List α} {e:α} {x y:Operand} {size:Nat} {n:Nm} {i j sz:Nat} (p:Nat) (B:q=none\/Nat.beq all.length (p+(rest.length+1))=true) (J:∀S tk,AgR H S tk (⟨dst,.store t x y,ty,pos,after,g⟩::rest)->okQ q all p [n] true) (k:Nat) (hs:szT C.P t=some size) (o:ev sl x = .ref n i j) (F:H[k]? = some (n,gB sz enc xs)) (f:xs[i]? = some e) (e':α) (I:stD size (enc e) j (ev sl y)=some (enc e'))
  (A:aQ all sl ⟨dst,.store t x y,ty,pos,after,g⟩=some true) (h:aZ (pO q p [n] true) C all K rest (dI sl dst .none) (H.set k (n,gB sz enc (xs.set i e')))):aZ q C all K (⟨dst,.store t x y,ty,pos,after,g⟩::rest) sl H:=by
 cases xs with
 | nil=>simp at f
 | cons z zs =>
  refine Dw p B J k hs o F f e' I A ?_
  have:gB sz enc ((z::zs).set i e')=some (bV sz enc ((z::zs).set i e')):=by cases i <;> rfl
  rw [this]at h;exact h
theorem finG {α:Type} {enc:α->List D} {sz t:Nat} {xs:List α} {n:Nm} {outs:List Box} {e:Exit} (he:e = .normal\/e = .ret) (j:Nat) (h1:sl t=gV n sz xs) (h2:H[j]? = some (n,gB sz enc xs)) (hj:Nat.ble outs.length j=true) (N:outs.all (λb=>b.ok 0)=true)
  (F:H.take outs.length=qW 0 outs):qI C [.tmp t] outs.length (gV (aA outs.length) sz xs) (outs.map some++gO sz enc xs) e sl H:=by
 have hj:=Nat.le_of_ble_eq_true hj
 have f:∀i (h:i<outs.length),H[i]? = some (aA i,some outs[i]):=λi hi=>by
  have:=sQ outs 0 i hi
  rw [Nat.zero_add,<- F,List.getElem?_take,if_pos hi]at this
  exact this
 have ho:∀{ν:List Nm} {l:List Box} {j:Nat} {A:List Nat} {ns:List Nm} {bs:List (Option Box)},(∀b∈l,b.ok 0=true)->(∀i (h:i<l.length),H[j+i]? = some (aA (j+i),some l[i]))->Ba H ν A ns bs->Ba H ν (List.range' j l.length++A) ((List.range' j l.length).map aA++ns) (l.map some++bs):=by
  intro ν l
  induction l with
  | nil=>exact λ_ _ h=>h
  | cons b l I =>
   intro j A ns bs hb B L
   simp only [List.length_cons,List.range'_succ,List.map_cons,List.cons_append]
   refine⟨?_,I (λx J=>hb x (by simp [J])) (λi hi => ?_) L⟩
   ·have:=B 0 (by simp)
    simp only [Option.map_some,vo (hb b (by simp))]
    exact this
   ·have:=B (i+1) (by simpa using hi)
    rw [show j+1+i=j+(i+1) by omega]
    exact this
 have o:∀b∈outs,b.ok 0=true:=λb hb=>List.all_eq_true.1 N b hb
 cases xs with
 | nil =>
  refine⟨he,[.nil],[.nil],List.range' 0 outs.length++[],(List.range' 0 outs.length).map aA++[],⟨h1,trivial⟩,.cons (.inl rfl) .nil,rfl,ho o (λi hi=>by rw [Nat.zero_add];exact f i hi) trivial,by simp [List.nodup_range'],λi hi=>by simp [hi]⟩
 | cons x xs =>
  refine⟨he,[.vs n sz 0 (x::xs).length],[.vs n sz 0 (x::xs).length],List.range' 0 outs.length++[j],(List.range' 0 outs.length).map aA++[n],⟨h1,trivial⟩,.cons (.inl rfl) .nil,?_,
   ho o (λi hi=>by rw [Nat.zero_add];exact f i hi) ⟨h2,trivial⟩,?_,λi hi=>by rw [List.getElem?_append_left (by simpa using hi)];simp [hi]⟩
  ·show V.vs n sz 0 (x::xs).length=ren _ (.vs (aA outs.length) sz 0 (x::xs).length)
   simp only [ren]
   rw [tJ]
   rw [List.getElem?_append_right (by simp)];simp
  ·rw [List.nodup_append]
   refine⟨List.nodup_range',by simp,λa M b hb => ?_⟩
   simp only [List.mem_singleton]at hb
   simp only [List.mem_range'_1]at M
   omega
end
section
variable {C:Cfg} {sl:Nat->V} {H:Hp} {q:Qm} {all rest:List Oper} {K:(Nat->V)->Hp->Prop} {Q:QH} {c:Code}
variable {dst:Option Tmp} {d:Nat} {t ty:TypeId} {pos:String} {after:Array Edge} {g:Option (Nat×Bool)}
theorem aa {op:Op} (v:V) (h:aZ q C all K rest (dI sl dst v) H) (f:Fs C sl op=some v:=by exact rfl):aZ q C all K (⟨dst,op,ty,pos,after,none⟩::rest) sl H:=aL v wz f h
theorem ah {j:Nat} {f b:Bool} {o:Nat} {op:Op} (h:aZ q C all K rest (dI sl dst .none) H) (h1:(all[j]?).bind (·.dst)=some o:=by exact rfl) (h2:sl o = .d (.bool b):=by exact rfl) (A:(b==f)=false:=by exact rfl) :
  aZ q C all K (⟨dst,op,ty,pos,after,some (j,f)⟩::rest) sl H:=dK (wg h1 h2 A) h
theorem aR (f:List (Nat×V)) (h:Hp) (h1:wH C c (Nv (KL (λ_:Unit=>f) (λ_=>h) (λ_=>True)) Q) sl H) (h2:∀x:Unit,True->∀sl' j,Eng.pick f sl'=f->Eng.pre h j->Q .normal sl' j):wH C c Q sl H :=
 lu (λ_:Unit=>f) (λ_=>h) (λ_=>True) h1 h2
theorem ai {id:Nat} {ops:List Oper} {b:Code} (h:aZ none C ops (λsl H=>wH C b Q sl H) ops sl H):wH C (.seq (.region id ops.toArray false) b) Q sl H:=ak (au h)
theorem aN {f:List ResultVar} {r:V} (vs:List V) (h1:GX C sl H f vs) (h2:(vs.flatMap frz).all (λ_=>false)=true:=by exact rfl) (h:Jp (vs.map co0)=r:=by exact rfl) (j:okV 0 r=true:=by exact rfl):qI C f 0 r [] .ret sl H:=fin0 (.inr rfl) vs h1 h2 h j
theorem cB {id:Nat} {σ ρ:Type} (f:σ->List (Nat×V)) (j:σ->Hp) (h:Nat->σ->List (Nat×V)) (body:σ->Option (Ctl σ ρ)) (o:Ctl σ ρ) (n:Nat) (A:σ) (hj:iterN body n A=some o) (he:Eng.pick (h n A) sl=h n A) (F:Eng.pre (j A) H)
  (h1:∀x:Nat×σ,iterN body x.1 x.2=some o->wH C c (Ke (λp:Nat×σ=>h p.1 p.2) (λp=>j p.2) (λp=>iterN body p.1 p.2=some o) (λp=>p.1) x (Oh id (Nv (KL f j (λp=>o = .go p)) Q))) (envS (h x.1 x.2)) (j x.2))
  (h2:∀x,o = .go x->∀sl' B,Eng.pick (f x) sl'=f x->Eng.pre (j x) B->Q .normal sl' B):wH C (.block id (.loop c)) Q sl H :=
 lu f j (λp=>o = .go p) (aM (DL (β:=Nat×σ) (λp=>h p.1 p.2) (λp=>j p.2) (λp=>iterN body p.1 p.2=some o) (λp=>p.1) (n,A) hj he F h1)) h2
theorem yG {id:Nat} {σ ρ N:Type} (f:(σ×N)->List (Nat×V)) (j:(σ×N)->Hp) (h:Nat->(σ×N)->List (Nat×V)) (body:σ->Option (Ctl σ ρ)) (o:Ctl σ ρ) (n:Nat) (A:(σ×N)) (hj:iterN body n A.1=some o) (he:Eng.pick (h n A) sl=h n A) (F:Eng.pre (j A) H)
  (h1:∀x:Nat×(σ×N),iterN body x.1 x.2.1=some o->wH C c (Ke (λp:Nat×(σ×N)=>h p.1 p.2) (λp=>j p.2) (λp=>iterN body p.1 p.2.1=some o) (λp=>p.1) x (Oh id (Nv (KL f j (λp=>o = .go p.1)) Q))) (envS (h x.1 x.2)) (j x.2))
  (h2:∀x,o = .go x.1->∀sl' B,Eng.pick (f x) sl'=f x->Eng.pre (j x) B->Q .normal sl' B):wH C (.block id (.loop c)) Q sl H :=
 lu f j (λp=>o = .go p.1) (aM (DL (β:=Nat×(σ×N)) (λp=>h p.1 p.2) (λp=>j p.2) (λp=>iterN body p.1 p.2.1=some o) (λp=>p.1) (n,A) hj he F h1)) h2
theorem bN {id:Nat} {σ ρ α:Type} (f:σ->List (Nat×V)) (j:σ->Hp) (h:Nat->σ->List (Nat×V)) (body:Nat->α->σ->Option (Ctl σ ρ)) (o:Ctl σ ρ) (xs:List α) (A:σ) (hj:forR body xs 0 A=some o) (he:Eng.pick (h 0 A) sl=h 0 A) (F:Eng.pre (j A) H)
  (h1:∀x:Nat×List α×σ,(forR body x.2.1 x.1 x.2.2=some o/\xs.drop x.1=x.2.1)->wH C c (Ke (λp:Nat×List α×σ=>h p.1 p.2.2) (λp=>j p.2.2) (λp=>forR body p.2.1 p.1 p.2.2=some o/\xs.drop p.1=p.2.1) (λp=>p.2.1.length) x (Oh id (Nv (KL f j (λp=>o = .go p)) Q))) (envS (h x.1 x.2.2)) (j x.2.2))
  (h2:∀x,o = .go x->∀sl' B,Eng.pick (f x) sl'=f x->Eng.pre (j x) B->Q .normal sl' B):wH C (.block id (.loop c)) Q sl H :=
 lu f j (λp=>o = .go p) (aM (DL (β:=Nat×List α×σ) (λp=>h p.1 p.2.2) (λp=>j p.2.2) (λp=>forR body p.2.1 p.1 p.2.2=some o/\xs.drop p.1=p.2.1) (λp=>p.2.1.length) (0,xs,A) ⟨hj,rfl⟩ he F h1)) h2
theorem iw {id:Nat} {σ ρ N α:Type} (f:(σ×N)->List (Nat×V)) (j:(σ×N)->Hp) (h:Nat->(σ×N)->List (Nat×V)) (body:Nat->α->σ->Option (Ctl σ ρ)) (o:Ctl σ ρ) (xs:List α) (A:(σ×N)) (hj:forR body xs 0 A.1=some o) (he:Eng.pick (h 0 A) sl=h 0 A) (F:Eng.pre (j A) H)
  (h1:∀x:Nat×List α×(σ×N),(forR body x.2.1 x.1 x.2.2.1=some o/\xs.drop x.1=x.2.1)->wH C c (Ke (λp:Nat×List α×(σ×N)=>h p.1 p.2.2) (λp=>j p.2.2) (λp=>forR body p.2.1 p.1 p.2.2.1=some o/\xs.drop p.1=p.2.1) (λp=>p.2.1.length) x (Oh id (Nv (KL f j (λp=>o = .go p.1)) Q))) (envS (h x.1 x.2.2)) (j x.2.2))
  (h2:∀x,o = .go x.1->∀sl' B,Eng.pick (f x) sl'=f x->Eng.pre (j x) B->Q .normal sl' B):wH C (.block id (.loop c)) Q sl H :=
 lu f j (λp=>o = .go p.1) (aM (DL (β:=Nat×List α×(σ×N)) (λp=>h p.1 p.2.2) (λp=>j p.2.2) (λp=>forR body p.2.1 p.1 p.2.2.1=some o/\xs.drop p.1=p.2.1) (λp=>p.2.1.length) (0,xs,A) ⟨hj,rfl⟩ he F h1)) h2
end
end Go.Eng

