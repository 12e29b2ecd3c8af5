/-
  THE PLAIN LAW (part 3).
-/
import Derived.Test.YtigdobmllbakiaaGreatDoorPl2
import Derived.Test.YtigdobmllbakiaaGreatDoorDefs
open Go Go.Eng
namespace Go.Proofs.YtigdobmllbakiaaGreatDoor.Law
set_option linter.unusedVariables false
set_option linter.unusedSimpArgs false
theorem H9 (l:List Int) (hl:l.length<=1000):gJ l l=some true:=by
 unfold gJ
 have key:∀(xs:List Int) (k:Nat),(∀i x,xs[i]? = some x->l[k+i]? = some x)->forR (λk x s=>dR l k x s) xs k ()=some (.go ()):=by
  intro xs
  induction xs with
  | nil=>exact λk _=>rfl
  | cons x xs ih =>
   intro k h
   have hk:=h 0 x rfl
   rw [Nat.add_zero]at hk
   have hstep:dR l k x ()=some (.go ()):=by
    unfold dR
    rw [wu,hk,ob_,bne_self_eq_false];rfl
   rw [forR,hstep,ob_]
   exact ih (k+1) (λi y hy=>by have:=h (i+1) y hy;rw [show k+1+i=k+(i+1) by omega];exact this)
 rw [bne_self_eq_false,cond_false,gz (by omega),key l 0 (λi x hx=>by rw [Nat.zero_add];exact hx),ob_];rfl
theorem Hm (l:List ByteArray) (hl:l.length<=1000):dX l l=some true:=by
 unfold dX
 have key:∀(xs:List ByteArray) (k:Nat),(∀i x,xs[i]? = some x->l[k+i]? = some x)->forR (λk x s=>cO l k x s) xs k ()=some (.go ()):=by
  intro xs
  induction xs with
  | nil=>exact λk _=>rfl
  | cons x xs ih =>
   intro k h
   have hk:=h 0 x rfl
   rw [Nat.add_zero]at hk
   have hstep:cO l k x ()=some (.go ()):=by
    unfold cO
    have hne:sNe x x=false:=by
     show (!sEq x x)=false
     rw [(dU _ _).2 rfl];rfl
    rw [wu,hk,ob_,hne];rfl
   rw [forR,hstep,ob_]
   exact ih (k+1) (λi y hy=>by have:=h (i+1) y hy;rw [show k+1+i=k+(i+1) by omega];exact this)
 rw [bne_self_eq_false,cond_false,gz (by omega),key l 0 (λi x hx=>by rw [Nat.zero_add];exact hx),ob_];rfl
theorem LG (e:Entry) (hm:∀n ∈ [e.Version,e.First,e.Last,e.Every,e.Days,e.From,e.To,e.Prio],Med n) (hk:e.Key.size<=1000) (hi:e.Item.size<=1000) (hx:e.Except.length<=1000) (ht:e.Tags.length<=1000):iq e e=some true:=by
 have hl:=CZ (⟨e.Key,e.Item,e.Version,e.First,e.Last,e.Every,e.Days,[],e.From,e.To,e.Prio,[],e.Gone⟩:Entry) hm (λn hn=>by cases hn) (by simp) (λt ht=>by cases ht) (by simp) (λw hw=>by
  unfold bW at hw
  rcases List.mem_append.1 hw with hw|hw
  ·rcases List.mem_append.1 hw with hw|hw
   ·simp only [List.mem_cons,List.not_mem_nil,or_false]at hw
    rcases hw with rfl|rfl
    ·rw [<- Lib.size_eq];show e.Key.size<=_;omega
    ·rw [<- Lib.size_eq];show e.Item.size<=_;omega
   ·obtain ⟨n,hn,rfl⟩:=List.mem_map.1 hw
    have:=vF (hm n hn)
    omega
  ·simp only [List.mem_cons,List.not_mem_nil,or_false]at hw
   rcases hw with rfl|rfl|rfl
   ·show (bif e.Gone then _ else _:List UInt8).length<=_
    cases e.Gone <;> decide
   ·decide
   ·decide)
 unfold iq
 rw [hl,ob_,ob_,(dU _ _).2 rfl,cond_true,H9 _ hx,ob_,cond_true,Hm _ ht];rfl
theorem MW (l:List Entry) (h:∀e∈l,iq e e=some true) (hl:l.length<=1000):aS l l=some true:=by
 unfold aS
 have key:∀(xs:List Entry) (k:Nat),(∀i x,xs[i]? = some x->l[k+i]? = some x)->(∀e∈xs,iq e e=some true)->forR (λk x s=>aN l k x s) xs k ()=some (.go ()):=by
  intro xs
  induction xs with
  | nil=>exact λk _ _=>rfl
  | cons x xs ih =>
   intro k h hs
   have hk:=h 0 x rfl
   rw [Nat.add_zero]at hk
   have hstep:aN l k x ()=some (.go ()):=by
    unfold aN
    rw [wu,hk,ob_,hs x (by simp)];rfl
   rw [forR,hstep,ob_]
   exact ih (k+1) (λi y hy=>by have:=h (i+1) y hy;rw [show k+1+i=k+(i+1) by omega];exact this) (λe he=>hs e (List.mem_cons_of_mem _ he))
 rw [bne_self_eq_false,cond_false,gz (by omega),key l 0 (λi x hx=>by rw [Nat.zero_add];exact hx) h,ob_];rfl
theorem Jd {m:Nat} {e:Entry} (h:ReadE m e) (hm:m<=1000):G8 e :=
 ⟨Nat.le_trans h.key hm,Nat.le_trans h.item hm,by have:=h.dayl;omega,by have:=h.tagl;omega,λt ht=>Nat.le_trans (h.tags t ht) hm⟩
theorem C8:∀ps:List (Entry×List UInt8),(∀p∈ps,12<=p.2.length)->13*ps.length<=(mr ps).length
 | [],_=>by simp
 | p::ps,h=>by
  have h1:=h p (by simp)
  have h2:=C8 ps (λq hq=>h q (List.mem_cons_of_mem _ hq))
  rw [vg,List.length_append,List.length_append]
  simp only [List.length_cons,List.length_nil]
  omega
theorem LW (u:List UInt8) (hu:u.length<=900):∃r:List Entry×Int×Int,ig (SB u)=some r/\(r.2.2=0->fF r.1=some (SB u,0)):=by
 have hsz:decide (((SB u).size:Int)>200000)=false:=by rw [dJ];exact decide_eq_false (by omega)
 obtain ⟨sz1,sz2⟩:=qc 10 u
 have hne:=BI 10 u
 have hjn:=uY 10 u
 have hsp:=qy 10 (s:=SB u) (by rw [dJ];omega)
 rw [show (List.map (λl=>(⟨l.toArray⟩:ByteArray)) (spl 10 (SB u).data.toList))=(spl 10 u).map SB from rfl]at hsp
 have hq:∀q∈spl 10 u,q.length<=900:=λq h=>Nat.le_trans (sz2 q h) hu
 generalize hps:spl 10 u=qs at *
 have hpl:(qs.map SB).length=qs.length:=List.length_map ..
 have hpos:0<qs.length:=List.length_pos_iff.2 hne
 have hw:w64 (((qs.map SB).length:Int)-1)=((qs.length-1:Nat):Int):=by rw [hpl,lF (by omega)];omega
 obtain ⟨z,hz⟩:∃z,qs.getLast? = some z:=⟨_,List.getLast?_eq_some_getLast hne⟩
 have hix:idx (qs.map SB) ((qs.length-1:Nat):Int)=some (SB z):=by
  rw [wu,List.getElem?_map,<- List.getLast?_eq_getElem?,hz];rfl
 have fin:∀(ps:List (Entry×List UInt8)),ps.length<=901->(∀p∈ps,ReadE p.2.length p.1/\cK p.1=some (SB (p.2++[10])))->(∀p∈ps,p.2.length<=900)->mr ps=u ->
   ∃r:List Entry×Int×Int,((bA (ps.map (·.1))).bind λr_29=>bif (r_29 != 0)then some (([]:List Entry),(0:Int),r_29)else some (ps.map (·.1),0,0))=some r/\(r.2.2=0->fF r.1=some (SB u,0)):=by
  intro ps hl h1 h2 h3
  have hcount:=C8 ps (λp hp=>(h1 p hp).1.big)
  rw [h3]at hcount
  have hc:=entsK (l:=ps.map (·.1)) (λe he=>by
   obtain ⟨p,hp,rfl⟩:=List.mem_map.1 he
   exact Jd (h1 p hp).1 (by have:=h2 p hp;omega)) (by rw [List.length_map];omega)
  rw [hc,ob_]
  by_cases h0:GJ (ps.map (·.1))=0
  ·rw [h0]at hc ⊢
   refine⟨_,rfl,λ_ => ?_⟩
   have:=JZ ps (λp hp=>(h1 p hp).2) (by omega) hc (by rw [h3];omega)
   rw [h3]at this
   exact this
  ·rw [show (GJ (ps.map (·.1)) != 0)=true by simpa using h0]
   exact⟨_,rfl,λh=>absurd h h0⟩
 have hnil:fF []=some (⟨#[]⟩,0)\/True := .inr trivial
 unfold ig rW
 rw [hsz,cond_false,hsp,ob_,hw,hix,ob_,Jg]
 cases z with
 | nil =>
  have hdl:yG (qs.map SB) 0 ((qs.length-1:Nat):Int)=some (qs.dropLast.map SB):=by
   unfold yG
   rw [if_pos (by rw [hpl];omega),Int.toNat_natCast]
   congr 1
   rw [show Int.toNat 0=0 from rfl,List.drop_zero,<- List.map_take,<- List.dropLast_eq_take]
  simp only [List.isEmpty_nil,cond_true]
  rw [hdl]
  simp only [ob_]
  have hsplit:qs=qs.dropLast++[[]]:=by
   have h1:=List.dropLast_concat_getLast hne
   have h2:=List.getLast?_eq_some_getLast hne
   rw [hz,so_]at h2
   rw [<- h2]at h1
   exact h1.symm
  have hdq:∀x∈qs.dropLast,x.length<=900:=λx hx=>hq x (List.dropLast_subset qs hx)
  have hdlen:qs.dropLast.length<=900:=by rw [List.length_dropLast];omega
  rw [gz (by rw [List.length_map];omega)]
  rcases Dm (qs.dropLast.map SB,true) qs.dropLast 0 [] hdq (by simp only [List.length_nil];omega)with⟨ps,c1,c2,c3,_⟩|⟨i,c1⟩
  ·rw [c1,ob_,iH,List.nil_append]
   have hlb:mr ps=u:=by
    have e:mr ps=(ps.map (·.2)).flatMap (λx=>x++[10]):=by unfold mr;rw [List.flatMap_map]
    rw [e,c2,<- Hg,<- hsplit];exact hjn
   have hpl2:ps.length=qs.dropLast.length:=by have:=congrArg List.length c2;simpa using this
   exact fin ps (by omega) c3 (λp hp=>hdq _ (by rw [<- c2];exact List.mem_map.2 ⟨p,hp,rfl⟩)) hlb
  ·rw [c1]
   exact⟨([],i,9),rfl,λh=>by cases h⟩
 | cons z0 zs =>
  simp only [List.isEmpty_cons,cond_false,ob_]
  rw [gz (by rw [hpl];omega)]
  rcases Dm (qs.map SB,false) qs 0 [] hq (by simp only [List.length_nil];omega)with⟨ps,c1,c2,c3,c4⟩|⟨i,c1⟩
  ·exfalso
   have:=c4 rfl hne
   simp only []at this
   rw [hw]at this
   omega
  ·rw [c1]
   exact⟨([],i,9),rfl,λh=>by cases h⟩
def sP {σ ρ:Type} (s:σ) (body:σ->Option (Ctl σ ρ)):Option (Ctl σ ρ):=iterN body 300 s
def Le {α:Type} (a b:Option α):Prop:=∀r,a=some r->b=some r
theorem Le.refl {α:Type} (a:Option α):Le a a:=λ_ h=>h
theorem Le.bind {α β:Type} {a b:Option α} {f g:α->Option β} (h:Le a b) (k:∀x,Le (f x) (g x)):Le (a.bind f) (b.bind g):=λr e=>by
 obtain ⟨x,h1,h2⟩:=Option.bind_eq_some_iff.1 e
 rw [h x h1];exact k x r h2
theorem Le.cond {α:Type} {a b c d:Option α} {t:Bool} (h:Le a c) (k:Le b d):Le (bif t then a else b) (bif t then c else d):=by
 cases t
 ·exact k
 ·exact h
theorem Le.thenC {σ ρ τ:Type} {o:Ctl σ ρ} {f f':σ->Option τ} {g g':ρ->Option τ} (h:∀x,Le (f x) (f' x)) (k:∀x,Le (g x) (g' x)):Le (Go.Eng.thenC o f g) (Go.Eng.thenC o f' g'):=by
 cases o
 ·exact h _
 ·exact Le.refl _
 ·exact k _
theorem Le.forR {α σ ρ:Type} {b b':Nat->α->σ->Option (Ctl σ ρ)} (h:∀k x s,Le (b k x s) (b' k x s)):∀(xs:List α) (k:Nat) (s:σ),Le (Go.Eng.forR b xs k s) (Go.Eng.forR b' xs k s)
 | [],k,s=>Le.refl _
 | x::xs,k,s=>Le.bind (h k x s) (λc=>by
   cases c with
   | go s'=>exact Le.forR h xs _ _
   | brk s'=>exact Le.refl _
   | ret r=>exact Le.refl _)
theorem Le.forL {α σ ρ:Type} {xs:List α} {s:σ} {b b':Nat->α->σ->Option (Ctl σ ρ)} (h:∀k x s,Le (b k x s) (b' k x s)):Le (Go.Eng.forL xs s b) (Go.Eng.forL xs s b'):=by
 unfold Go.Eng.forL
 split
 ·exact Le.forR h xs 0 s
 ·exact Le.refl _
theorem Le.iterN {σ ρ:Type} {b b':σ->Option (Ctl σ ρ)} (h:∀s,Le (b s) (b' s)):∀(n:Nat) (s:σ),Le (Go.Eng.iterN b n s) (Go.Eng.iterN b' n s)
 | 0,s=>Le.refl _
 | n+1,s=>Le.bind (h s) (λc=>by
   cases c with
   | go s'=>exact Le.iterN h n s'
   | brk s'=>exact Le.refl _
   | ret r=>exact Le.refl _)
theorem Le.loop {σ ρ:Type} {s:σ} {b b':σ->Option (Ctl σ ρ)} (h:∀s,Le (b s) (b' s)):Le (sP s b) (mF s b'):=λr e=>tV (Le.iterN h _ _ r e)
def Ld (x:Int):List Int->List Int
 | []=>[x]
 | y::l=>bif decide (x<=y)then x::y::l else y::Ld x l
def CP:List Int->List Int
 | []=>[]
 | x::l=>Ld x (CP l)
theorem Ac (x:Int):∀l,(Ld x l).Perm (x::l)
 | [] => .refl _
 | y::l=>by
  unfold Ld
  cases decide (x<=y)with
  | true=>exact .refl _
  | false=>exact ((Ac x l).cons y).trans (List.Perm.swap x y l)
theorem Am:∀l,(CP l).Perm l
 | [] => .refl _
 | x::l=>(Ac x _).trans ((Am l).cons x)
theorem Aj (x:Int):∀l:List Int,l.Pairwise (· <= ·)->(Ld x l).Pairwise (· <= ·)
 | [],_=>List.pairwise_singleton _ _
 | y::l,h=>by
  obtain ⟨h1,h2⟩:=List.pairwise_cons.1 h
  unfold Ld
  by_cases hx:x<=y
  ·rw [decide_eq_true hx,cond_true]
   exact List.pairwise_cons.2 ⟨λz hz=>by
    rcases List.mem_cons.1 hz with rfl|hz
    ·exact hx
    ·exact Int.le_trans hx (h1 z hz),h⟩
  ·rw [decide_eq_false hx,cond_false]
   exact List.pairwise_cons.2 ⟨λz hz=>by
    rcases List.mem_cons.1 ((Ac x l).mem_iff.1 hz)with rfl|hz
    ·omega
    ·exact h1 z hz,Aj x l h2⟩
theorem xm:∀l,(CP l).Pairwise (· <= ·)
 | [] => .nil
 | x::l=>Aj x _ (xm l)
theorem K4 (l:List Int):l.mergeSort (λx y=>decide (x<=y))=CP l:=by
 refine List.Perm.eq_of_pairwise (le:=(· <= ·)) (λa b _ _ h1 h2=>Int.le_antisymm h1 h2) ?_ (xm l) ((List.mergeSort_perm l _).trans (Am l).symm)
 have:=List.pairwise_mergeSort (le:=λ(x y:Int)=>decide (x<=y)) (λa b c=>by simp;omega) (λa b=>by simp;omega) l
 exact this.imp (by simp)
def NV (l:List Int):Option (List Int):=bif Nat.ble l.length 1000 then some (CP l)else none
theorem Nk (l:List Int):Le (NV l) (ic l):=λr h=>by
 unfold NV at h
 cases hb:Nat.ble l.length 1000 with
 | false=>rw [hb]at h;cases h
 | true =>
  rw [hb,cond_true]at h
  have:=Nat.le_of_ble_eq_true hb
  unfold ic KO
  rw [if_pos (by omega),K4];exact h
set_option maxRecDepth 100000
def gp (s_1:ByteArray):Option (Bool) :=
 (sP 0 (λs=>jc s_1 s)).bind λo_10=>thenC o_10 (λs_7=>(bif (sNe s_1 (⟨#[]⟩:ByteArray))then some (decide ((s_1.size:Int)<=40))else some false).bind λv_30=>some v_30) (λr=>some r)
theorem iV (s_1:ByteArray):Le (gp s_1) (fE s_1):=by
 unfold gp fE
 repeat' (with_reducible first | exact Le.refl _ | refine Le.loop (λ_ => ?_) | refine Le.forL (λ_ _ _ => ?_) | refine Le.thenC (λ_ => ?_) (λ_ => ?_) | refine Le.cond ?_ ?_ | refine Le.bind ?_ (λ_ => ?_))
def gD (s_1:(List Int)) (s_8:Int):Option (Ctl (Int) ((List Int))) :=
 bif (decide (s_8<(s_1.length:Int)))then (inR s_8 s_1).bind λ_=>(s_1[(0+(s_8).toNat)]?).bind λe_15=>(inR (w64 (s_8-1)) s_1).bind λ_=>(s_1[(0+((w64 (s_8-1))).toNat)]?).bind λe_18=>bif (e_15==e_18)then (neL s_1).bind λ_=>(A9 s_1 s_8 (s_1.length:Int)).bind λ_=>(sP (s_1,s_8,1) (λs=>fe s_1 s_8 s)).bind λo_31=>thenC o_31 (λs_28=>(A9 s_28.1 s_28.2.1 (s_28.1.length:Int)).bind λ_=>(A9 (s_28.1.take ((s_28.2.1).toNat)++List.replicate (((s_28.1.length:Int)).toNat-(s_28.2.1).toNat) 0++s_28.1.drop (((s_28.2.1).toNat)+(((s_28.1.length:Int)).toNat-(s_28.2.1).toNat))) 0 s_28.2.1).bind λ_=>some (.ret (cutL (s_28.1.take ((s_28.2.1).toNat)++List.replicate (((s_28.1.length:Int)).toNat-(s_28.2.1).toNat) 0++s_28.1.drop (((s_28.2.1).toNat)+(((s_28.1.length:Int)).toNat-(s_28.2.1).toNat))) 0 ((s_28.2.1).toNat)))) (λ_=>none)else some (.go (w64 (s_8+1)))else some (.brk s_8)
theorem nz (s_1:(List Int)) (s_8:Int):Le (gD s_1 s_8) (dH s_1 s_8):=by
 unfold gD dH
 repeat' (with_reducible first | exact Le.refl _ | refine Le.loop (λ_ => ?_) | refine Le.forL (λ_ _ _ => ?_) | refine Le.thenC (λ_ => ?_) (λ_ => ?_) | refine Le.cond ?_ ?_ | refine Le.bind ?_ (λ_ => ?_))
def iA (s_1:(List Int)):Option ((List Int)) :=
 bif (decide ((s_1.length:Int)<2))then some s_1 else (sP 1 (λs=>gD s_1 s)).bind λo_11=>thenC o_11 (λs_8=>some s_1) (λr=>some r)
theorem pq (s_1:(List Int)):Le (iA s_1) (eP s_1):=by
 unfold iA eP
 repeat' (with_reducible first | exact Le.refl _ | exact nz _ _ | refine Le.loop (λ_ => ?_) | refine Le.forL (λ_ _ _ => ?_) | refine Le.thenC (λ_ => ?_) (λ_ => ?_) | refine Le.cond ?_ ?_ | refine Le.bind ?_ (λ_ => ?_))
def dw (b_3:Int) (a_2:Int) (s_10:(List Run)×Int):Option (Ctl ((List Run)×Int) (Unit)) :=
 bif (decide (s_10.2<b_3))then (sP (s_10.1,s_10.2) (λs=>bT a_2 s)).bind λo_24=>thenC o_24 (λs_21=>some (.go (s_21.1,(w64 (s_10.2+1))))) (λ_=>none)else some (.brk (s_10.1,s_10.2))
theorem jd (b_3:Int) (a_2:Int) (s_10:(List Run)×Int):Le (dw b_3 a_2 s_10) (bE b_3 a_2 s_10):=by
 unfold dw bE
 repeat' (with_reducible first | exact Le.refl _ | refine Le.loop (λ_ => ?_) | refine Le.forL (λ_ _ _ => ?_) | refine Le.thenC (λ_ => ?_) (λ_ => ?_) | refine Le.cond ?_ ?_ | refine Le.bind ?_ (λ_ => ?_))
def dD (data_1:(List Run)) (a_2:Int) (b_3:Int):Option ((List Run)) :=
 (sP (data_1,(w64 (a_2+1))) (λs=>dw b_3 a_2 s)).bind λo_13=>thenC o_13 (λs_10=>some s_10.1) (λ_=>none)
theorem jD (data_1:(List Run)) (a_2:Int) (b_3:Int):Le (dD data_1 a_2 b_3) (bO data_1 a_2 b_3):=by
 unfold dD bO
 repeat' (with_reducible first | exact Le.refl _ | exact jd _ _ _ | refine Le.loop (λ_ => ?_) | refine Le.forL (λ_ _ _ => ?_) | refine Le.thenC (λ_ => ?_) (λ_ => ?_) | refine Le.cond ?_ ?_ | refine Le.bind ?_ (λ_ => ?_))
def dQ (b_3:Int) (a_2:Int) (data_1:(List Run)) (limit_4:Int) (s_11:Unit):Option (Ctl (Unit) ((List Run))) :=
 bif (decide ((w64 (b_3-a_2))<=12))then (dD data_1 a_2 b_3).bind λr_17=>(xy r_17 data_1).bind λ_=>some (.ret r_17)else bif (limit_4==0)then none else none
theorem jP (b_3:Int) (a_2:Int) (data_1:(List Run)) (limit_4:Int) (s_11:Unit):Le (dQ b_3 a_2 data_1 limit_4 s_11) (bS b_3 a_2 data_1 limit_4 s_11):=by
 unfold dQ bS
 repeat' (with_reducible first | exact Le.refl _ | exact jD _ _ _ | refine Le.loop (λ_ => ?_) | refine Le.forL (λ_ _ _ => ?_) | refine Le.thenC (λ_ => ?_) (λ_ => ?_) | refine Le.cond ?_ ?_ | refine Le.bind ?_ (λ_ => ?_))
def eU (data_1:(List Run)) (a_2:Int) (b_3:Int) (limit_4:Int):Option ((List Run)) :=
 (sP () (λs=>dQ b_3 a_2 data_1 limit_4 s)).bind λo_14=>thenC o_14 (λs_11=>some data_1) (λr=>some r)
theorem kv (data_1:(List Run)) (a_2:Int) (b_3:Int) (limit_4:Int):Le (eU data_1 a_2 b_3 limit_4) (cz data_1 a_2 b_3 limit_4):=by
 unfold eU cz
 repeat' (with_reducible first | exact Le.refl _ | exact jP _ _ _ _ _ | refine Le.loop (λ_ => ?_) | refine Le.forL (λ_ _ _ => ?_) | refine Le.thenC (λ_ => ?_) (λ_ => ?_) | refine Le.cond ?_ ?_ | refine Le.bind ?_ (λ_ => ?_))
def dI (x_1:(List Run)):Option ((List Run)) :=
 (nY (IntKind.u64.wrap (x_1.length:Int))).bind λr_3=>(eU x_1 0 (x_1.length:Int) r_3).bind λr_5=>(xy r_5 x_1).bind λ_=>some r_5
theorem jF (x_1:(List Run)):Le (dI x_1) (bP x_1):=by
 unfold dI bP
 repeat' (with_reducible first | exact Le.refl _ | exact kv _ _ _ _ | refine Le.loop (λ_ => ?_) | refine Le.forL (λ_ _ _ => ?_) | refine Le.thenC (λ_ => ?_) (λ_ => ?_) | refine Le.cond ?_ ?_ | refine Le.bind ?_ (λ_ => ?_))
def pU (l_1:(List Rect)) (y_2:Int):Option ((List Run)) :=
 (forL l_1 ([]:List Run) (λk x s=>mU y_2 k x s)).bind λo_14=>thenC o_14 (λs_8=>(dI s_8).bind λr_27=>(xy r_27 s_8).bind λ_=>(forL r_27 ([]:List Run) (λk x s=>mX k x s)).bind λo_41=>thenC o_41 (λs_35=>some s_35) (λ_=>none)) (λ_=>none)
theorem CB (l_1:(List Rect)) (y_2:Int):Le (pU l_1 y_2) (mD l_1 y_2):=by
 unfold pU mD
 repeat' (with_reducible first | exact Le.refl _ | exact jF _ | refine Le.loop (λ_ => ?_) | refine Le.forL (λ_ _ _ => ?_) | refine Le.thenC (λ_ => ?_) (λ_ => ?_) | refine Le.cond ?_ ?_ | refine Le.bind ?_ (λ_ => ?_))
def oZ (m_2:(List Run)) (k_3:Nat) (x_5:Run) (s_8:(List Run)×Int):Option (Ctl ((List Run)×Int) (Unit)) :=
 (sP s_8.2 (λs=>mP m_2 x_5 s)).bind λo_25=>thenC o_25 (λs_22=>(sP (s_8.1,s_22,x_5.f_from) (λs=>mY m_2 x_5 s)).bind λo_43=>thenC o_43 (λs_38=>(bif (decide (s_38.2.2<x_5.f_to))then (lN s_38.1 ([(⟨s_38.2.2,x_5.f_to⟩:Run)]:List Run)).bind λa_68=>some a_68 else some s_38.1).bind λv_64=>some (.go (v_64,s_22))) (λ_=>none)) (λ_=>none)
theorem yD (m_2:(List Run)) (k_3:Nat) (x_5:Run) (s_8:(List Run)×Int):Le (oZ m_2 k_3 x_5 s_8) (kL m_2 k_3 x_5 s_8):=by
 unfold oZ kL
 repeat' (with_reducible first | exact Le.refl _ | refine Le.loop (λ_ => ?_) | refine Le.forL (λ_ _ _ => ?_) | refine Le.thenC (λ_ => ?_) (λ_ => ?_) | refine Le.cond ?_ ?_ | refine Le.bind ?_ (λ_ => ?_))
def uz (l_1:(List Run)) (m_2:(List Run)):Option ((List Run)) :=
 (forL l_1 (([]:List Run),0) (λk x s=>oZ m_2 k x s)).bind λo_14=>thenC o_14 (λs_8=>some s_8.1) (λ_=>none)
theorem Cu (l_1:(List Run)) (m_2:(List Run)):Le (uz l_1 m_2) (oM l_1 m_2):=by
 unfold uz oM
 repeat' (with_reducible first | exact Le.refl _ | exact yD _ _ _ _ | refine Le.loop (λ_ => ?_) | refine Le.forL (λ_ _ _ => ?_) | refine Le.thenC (λ_ => ?_) (λ_ => ?_) | refine Le.cond ?_ ?_ | refine Le.bind ?_ (λ_ => ?_))
def mW (r_25:(List Int)) (l_1:(List Rect)) (m_2:(List Rect)) (k_27:Nat) (x_29:Int) (s_32:(List Rect)×(List Run)×Int):Option (Ctl ((List Rect)×(List Run)×Int) (Unit)) :=
 (bif (decide ((w64 ((k_27:Int)+1))<(r_25.length:Int)))then (pU l_1 x_29).bind λr_45=>(pU m_2 x_29).bind λr_47=>(uz r_45 r_47).bind λr_49=>some r_49 else some ([]:List Run)).bind λv_42=>(dC s_32.2.1 v_42).bind λr_51=>bif r_51 then some (.go (s_32.1,s_32.2.1,s_32.2.2))else (forL s_32.2.1 s_32.1 (λk x s=>lg s_32 x_29 k x s)).bind λo_64=>thenC o_64 (λs_59=>some (.go (s_59,v_42,x_29))) (λ_=>none)
theorem wS (r_25:(List Int)) (l_1:(List Rect)) (m_2:(List Rect)) (k_27:Nat) (x_29:Int) (s_32:(List Rect)×(List Run)×Int):Le (mW r_25 l_1 m_2 k_27 x_29 s_32) (jA r_25 l_1 m_2 k_27 x_29 s_32):=by
 unfold mW jA
 repeat' (with_reducible first | exact Le.refl _ | exact CB _ _ | exact Cu _ _ | refine Le.loop (λ_ => ?_) | refine Le.forL (λ_ _ _ => ?_) | refine Le.thenC (λ_ => ?_) (λ_ => ?_) | refine Le.cond ?_ ?_ | refine Le.bind ?_ (λ_ => ?_))
def qM (l_1:(List Rect)) (m_2:(List Rect)):Option ((List Rect)) :=
 (dS ([l_1,m_2]:List (List Rect))).bind λr_3=>(forL r_3 ([]:List Int) (λk x s=>lq k x s)).bind λo_16=>thenC o_16 (λs_10=>(NV s_10).bind λr_22=>(xy r_22 s_10).bind λ_=>(iA r_22).bind λr_25=>(forL r_25 (([]:List Rect),([]:List Run),0) (λk x s=>mW r_25 l_1 m_2 k x s)).bind λo_38=>thenC o_38 (λs_32=>some s_32.1) (λ_=>none)) (λ_=>none)
theorem zi (l_1:(List Rect)) (m_2:(List Rect)):Le (qM l_1 m_2) (lS l_1 m_2):=by
 unfold qM lS
 repeat' (with_reducible first | exact Le.refl _ | exact pq _ | exact wS _ _ _ _ _ _ | exact Nk _ | refine Le.loop (λ_ => ?_) | refine Le.forL (λ_ _ _ => ?_) | refine Le.thenC (λ_ => ?_) (λ_ => ?_) | refine Le.cond ?_ ?_ | refine Le.bind ?_ (λ_ => ?_))
def uf (l_1:(List Rect)):Option (Int×Int) :=
 (ko l_1).bind λr_2=>bif (r_2 != 0)then some (0,r_2)else (qM l_1 ([]:List Rect)).bind λr_5=>(qW r_5).bind λr_7=>some (r_7,0)
theorem Bz (l_1:(List Rect)):Le (uf l_1) (oH l_1):=by
 unfold uf oH
 repeat' (with_reducible first | exact Le.refl _ | exact zi _ _ | refine Le.loop (λ_ => ?_) | refine Le.forL (λ_ _ _ => ?_) | refine Le.thenC (λ_ => ?_) (λ_ => ?_) | refine Le.cond ?_ ?_ | refine Le.bind ?_ (λ_ => ?_))
def lI (l_1:(List ByteArray)) (k_2:Nat) (x_4:ByteArray) (s_7:Unit):Option (Ctl (Unit) (Int)) :=
 (gp x_4).bind λr_12=>bif (!r_12)then some (.ret 5)else (bif (decide ((k_2:Int)>0))then (idx l_1 (w64 ((k_2:Int)-1))).bind λy_18=>some (sLe x_4 y_18)else some false).bind λv_15=>bif v_15 then some (.ret 7)else some (.go ())
theorem uN (l_1:(List ByteArray)) (k_2:Nat) (x_4:ByteArray) (s_7:Unit):Le (lI l_1 k_2 x_4 s_7) (fZ l_1 k_2 x_4 s_7):=by
 unfold lI fZ
 repeat' (with_reducible first | exact Le.refl _ | exact iV _ | refine Le.loop (λ_ => ?_) | refine Le.forL (λ_ _ _ => ?_) | refine Le.thenC (λ_ => ?_) (λ_ => ?_) | refine Le.cond ?_ ?_ | refine Le.bind ?_ (λ_ => ?_))
def ll (l_1:(List ByteArray)):Option (Int) :=
 (forL l_1 () (λk x s=>lI l_1 k x s)).bind λo_10=>thenC o_10 (λs_7=>some 0) (λr=>some r)
theorem qA (l_1:(List ByteArray)):Le (ll l_1) (gW l_1):=by
 unfold ll gW
 repeat' (with_reducible first | exact Le.refl _ | exact uN _ _ _ _ | refine Le.loop (λ_ => ?_) | refine Le.forL (λ_ _ _ => ?_) | refine Le.thenC (λ_ => ?_) (λ_ => ?_) | refine Le.cond ?_ ?_ | refine Le.bind ?_ (λ_ => ?_))
def lD (l_1:(List ByteArray)):Option (Int) :=
 bif (decide ((l_1.length:Int)>20))then some 2 else (ll l_1).bind λr_3=>some r_3
theorem uI (l_1:(List ByteArray)):Le (lD l_1) (fA l_1):=by
 unfold lD fA
 repeat' (with_reducible first | exact Le.refl _ | exact qA _ | refine Le.loop (λ_ => ?_) | refine Le.forL (λ_ _ _ => ?_) | refine Le.thenC (λ_ => ?_) (λ_ => ?_) | refine Le.cond ?_ ?_ | refine Le.bind ?_ (λ_ => ?_))
def kR (e_1:Entry):Option (Int) :=
 ((gp e_1.Key).bind λr_5=>bif (!r_5)then some true else (gp e_1.Item).bind λr_8=>some (!r_8)).bind λv_3=>bif v_3 then some 5 else ((aP e_1.Version 0 1000000).bind λr_13=>bif r_13 then some true else (aP e_1.First 0 e_1.Last).bind λr_16=>bif r_16 then some true else bif (decide (e_1.Last>4000))then some true else (aP e_1.Every 1 400).bind λr_20=>bif r_20 then some true else (aP e_1.Days 1 127).bind λr_23=>some r_23).bind λv_11=>bif v_11 then some 1 else (fC e_1.Except).bind λr_26=>bif (r_26 != 0)then some r_26 else ((aP e_1.From 0 1439).bind λr_31=>bif r_31 then some true else (aP e_1.To 0 1439).bind λr_34=>bif r_34 then some true else (aP e_1.Prio 0 9).bind λr_37=>some r_37).bind λv_29=>bif v_29 then some 1 else (lD e_1.Tags).bind λr_40=>some r_40
theorem uq (e_1:Entry):Le (kR e_1) (eT e_1):=by
 unfold kR eT
 repeat' (with_reducible first | exact Le.refl _ | exact iV _ | exact uI _ | refine Le.loop (λ_ => ?_) | refine Le.forL (λ_ _ _ => ?_) | refine Le.thenC (λ_ => ?_) (λ_ => ?_) | refine Le.cond ?_ ?_ | refine Le.bind ?_ (λ_ => ?_))
def iR (l_1:(List Entry)) (k_3:Nat) (x_5:Entry) (s_8:Unit):Option (Ctl (Unit) (Int)) :=
 (kR x_5).bind λr_14=>bif (r_14 != 0)then some (.ret r_14)else (bif (decide ((k_3:Int)>0))then (idx l_1 (w64 ((k_3:Int)-1))).bind λy_20=>some (sLe x_5.Key y_20.Key)else some false).bind λv_17=>bif v_17 then some (.ret 7)else some (.go ())
theorem pR (l_1:(List Entry)) (k_3:Nat) (x_5:Entry) (s_8:Unit):Le (iR l_1 k_3 x_5 s_8) (dM l_1 k_3 x_5 s_8):=by
 unfold iR dM
 repeat' (with_reducible first | exact Le.refl _ | exact uq _ | refine Le.loop (λ_ => ?_) | refine Le.forL (λ_ _ _ => ?_) | refine Le.thenC (λ_ => ?_) (λ_ => ?_) | refine Le.cond ?_ ?_ | refine Le.bind ?_ (λ_ => ?_))
def jM (l_1:(List Entry)):Option (Int) :=
 bif (decide ((l_1.length:Int)>200))then some 2 else (forL l_1 () (λk x s=>iR l_1 k x s)).bind λo_11=>thenC o_11 (λs_8=>some 0) (λr=>some r)
theorem rH (l_1:(List Entry)):Le (jM l_1) (bA l_1):=by
 unfold jM bA
 repeat' (with_reducible first | exact Le.refl _ | exact pR _ _ _ _ | refine Le.loop (λ_ => ?_) | refine Le.forL (λ_ _ _ => ?_) | refine Le.thenC (λ_ => ?_) (λ_ => ?_) | refine Le.cond ?_ ?_ | refine Le.bind ?_ (λ_ => ?_))
def gQ (x_1:(List Int)) (target_2:Int):Option (Int×Bool) :=
 (sP (0,(x_1.length:Int)) (λs=>eB x_1 target_2 s)).bind λo_11=>thenC o_11 (λs_8=>(bif (decide (s_8.1<(x_1.length:Int)))then (idx x_1 s_8.1).bind λy_24=>bif (y_24==target_2)then some true else (idx x_1 s_8.1).bind λy_27=>(iy y_27).bind λr_29=>bif r_29 then (iy target_2).bind λr_32=>some r_32 else some false else some false).bind λv_21=>some (s_8.1,v_21)) (λ_=>none)
theorem nP (x_1:(List Int)) (target_2:Int):Le (gQ x_1 target_2) (dP x_1 target_2):=by
 unfold gQ dP
 repeat' (with_reducible first | exact Le.refl _ | refine Le.loop (λ_ => ?_) | refine Le.forL (λ_ _ _ => ?_) | refine Le.thenC (λ_ => ?_) (λ_ => ?_) | refine Le.cond ?_ ?_ | refine Le.bind ?_ (λ_ => ?_))
def o6 (e_1:Entry) (d_2:Int):Option (Bool) :=
 ((aP d_2 e_1.First e_1.Last).bind λr_6=>bif r_6 then some true else (Hf .i64 (w64 (d_2-e_1.First)) e_1.Every).bind λq_9=>bif (q_9 != 0)then some true else (IZ .i64 1 (d_2.tmod 7)).bind λq_12=>some ((Cf .i64 e_1.Days q_12)==0)).bind λv_4=>bif v_4 then some false else (gQ e_1.Except d_2).bind λr_15=>some (!r_15.2)
theorem yN (e_1:Entry) (d_2:Int):Le (o6 e_1 d_2) (kP e_1 d_2):=by
 unfold o6 kP
 repeat' (with_reducible first | exact Le.refl _ | exact nP _ _ | refine Le.loop (λ_ => ?_) | refine Le.forL (λ_ _ _ => ?_) | refine Le.thenC (λ_ => ?_) (λ_ => ?_) | refine Le.cond ?_ ?_ | refine Le.bind ?_ (λ_ => ?_))
def mh (wv_3:Window) (zone_2:Int) (e_1:Entry) (s_15:(List Window)×Int):Option (Ctl ((List Window)×Int) (Unit)) :=
 bif (decide (s_15.2<=(Gg (w64 ((w64 ((w64 (wv_3.To+(w64 (zone_2*60000)))).tdiv 86400000))+1)) e_1.Last)))then (o6 e_1 s_15.2).bind λr_24=>bif (!r_24)then some (.go (s_15.1,(w64 (s_15.2+1))))else (lW e_1 zone_2 s_15.2).bind λr_27=>(bif (decide (r_27.From<wv_3.To))then some (decide (r_27.To>wv_3.From))else some false).bind λv_30=>(bif v_30 then (lN s_15.1 ([r_27]:List Window)).bind λa_37=>some a_37 else some s_15.1).bind λv_33=>some (.go (v_33,(w64 (s_15.2+1))))else some (.brk (s_15.1,s_15.2))
theorem wh (wv_3:Window) (zone_2:Int) (e_1:Entry) (s_15:(List Window)×Int):Le (mh wv_3 zone_2 e_1 s_15) (je wv_3 zone_2 e_1 s_15):=by
 unfold mh je
 repeat' (with_reducible first | exact Le.refl _ | exact yN _ _ | refine Le.loop (λ_ => ?_) | refine Le.forL (λ_ _ _ => ?_) | refine Le.thenC (λ_ => ?_) (λ_ => ?_) | refine Le.cond ?_ ?_ | refine Le.bind ?_ (λ_ => ?_))
def oU (e_1:Entry) (zone_2:Int) (wv_3:Window):Option ((List Window)) :=
 (bif e_1.Gone then some true else some (decide (wv_3.From>=wv_3.To))).bind λv_6=>bif v_6 then some ([]:(List Window))else (sP (([]:List Window),(sw (w64 ((w64 ((w64 (wv_3.From+(w64 (zone_2*60000)))).tdiv 86400000))-2)) e_1.First)) (λs=>mh wv_3 zone_2 e_1 s)).bind λo_21=>thenC o_21 (λs_15=>some s_15.1) (λ_=>none)
theorem ym (e_1:Entry) (zone_2:Int) (wv_3:Window):Le (oU e_1 zone_2 wv_3) (ku e_1 zone_2 wv_3):=by
 unfold oU ku
 repeat' (with_reducible first | exact Le.refl _ | exact wh _ _ _ _ | refine Le.loop (λ_ => ?_) | refine Le.forL (λ_ _ _ => ?_) | refine Le.thenC (λ_ => ?_) (λ_ => ?_) | refine Le.cond ?_ ?_ | refine Le.bind ?_ (λ_ => ?_))
def o5 (e_1:Entry) (zone_2:Int) (wv_3:Window):Option ((List Window)×Int) :=
 (jM ([e_1]:List Entry)).bind λr_6=>bif (r_6 != 0)then some (([]:(List Window)),r_6)else (aP zone_2 (-1440) 1440).bind λr_9=>bif r_9 then some (([]:(List Window)),1)else (iU wv_3).bind λr_12=>bif (r_12 != 0)then some (([]:(List Window)),r_12)else (oU e_1 zone_2 wv_3).bind λr_15=>(forL (List.range ((r_15.length:Int)).toNat) r_15 (λk x s=>kg wv_3 k x s)).bind λo_27=>thenC o_27 (λs_24=>some (s_24,0)) (λ_=>none)
theorem y9 (e_1:Entry) (zone_2:Int) (wv_3:Window):Le (o5 e_1 zone_2 wv_3) (kJ e_1 zone_2 wv_3):=by
 unfold o5 kJ
 repeat' (with_reducible first | exact Le.refl _ | exact rH _ | exact ym _ _ _ | refine Le.loop (λ_ => ?_) | refine Le.forL (λ_ _ _ => ?_) | refine Le.thenC (λ_ => ?_) (λ_ => ?_) | refine Le.cond ?_ ?_ | refine Le.bind ?_ (λ_ => ?_))
def lY (l_1:(List ByteArray)):Option (Int) :=
 bif (decide ((l_1.length:Int)>20))then some 2 else (ll l_1).bind λr_3=>some r_3
theorem ve (l_1:(List ByteArray)):Le (lY l_1) (iZ l_1):=by
 unfold lY iZ
 repeat' (with_reducible first | exact Le.refl _ | exact qA _ | refine Le.loop (λ_ => ?_) | refine Le.forL (λ_ _ _ => ?_) | refine Le.thenC (λ_ => ?_) (λ_ => ?_) | refine Le.cond ?_ ?_ | refine Le.bind ?_ (λ_ => ?_))
def iC (l_1:(List Campaign)) (k_3:Nat) (x_5:Campaign) (s_8:Unit):Option (Ctl (Unit) (Int)) :=
 ((gp x_5.Key).bind λr_16=>bif (!r_16)then some true else bif (sNe x_5.Class (⟨#[]⟩:ByteArray))then (gp x_5.Class).bind λr_20=>some (!r_20)else some false).bind λv_14=>bif v_14 then some (.ret 5)else (bif (decide ((k_3:Int)>0))then (idx l_1 (w64 ((k_3:Int)-1))).bind λy_26=>some (sLe x_5.Key y_26.Key)else some false).bind λv_23=>bif v_23 then some (.ret 7)else ((mZ x_5.Time).bind λr_31=>bif (!r_31)then some true else (aP x_5.Goal 0 1000000).bind λr_34=>bif r_34 then some true else (aP x_5.Most 0 1000000).bind λr_37=>bif r_37 then some true else (aP x_5.Cents 0 1000000000).bind λr_40=>some r_40).bind λv_29=>bif v_29 then some (.ret 1)else (lY x_5.Tags).bind λr_43=>bif (r_43 != 0)then some (.ret r_43)else some (.go ())
theorem pu (l_1:(List Campaign)) (k_3:Nat) (x_5:Campaign) (s_8:Unit):Le (iC l_1 k_3 x_5 s_8) (eQ l_1 k_3 x_5 s_8):=by
 unfold iC eQ
 repeat' (with_reducible first | exact Le.refl _ | exact iV _ | exact ve _ | refine Le.loop (λ_ => ?_) | refine Le.forL (λ_ _ _ => ?_) | refine Le.thenC (λ_ => ?_) (λ_ => ?_) | refine Le.cond ?_ ?_ | refine Le.bind ?_ (λ_ => ?_))
def jo (l_1:(List Campaign)):Option (Int) :=
 bif (decide ((l_1.length:Int)>30))then some 2 else (forL l_1 () (λk x s=>iC l_1 k x s)).bind λo_11=>thenC o_11 (λs_8=>some 0) (λr=>some r)
theorem qR (l_1:(List Campaign)):Le (jo l_1) (fH l_1):=by
 unfold jo fH
 repeat' (with_reducible first | exact Le.refl _ | exact pu _ _ _ _ | refine Le.loop (λ_ => ?_) | refine Le.forL (λ_ _ _ => ?_) | refine Le.thenC (λ_ => ?_) (λ_ => ?_) | refine Le.cond ?_ ?_ | refine Le.bind ?_ (λ_ => ?_))
def uy (c_1:Campaign) (atv_2:Int):Option (Int×Int) :=
 (jo ([c_1]:List Campaign)).bind λr_4=>bif (r_4 != 0)then some (0,r_4)else (dx atv_2).bind λr_7=>bif (!r_7)then some (0,1)else (qX c_1 atv_2).bind λr_10=>some (r_10,0)
theorem Dv (c_1:Campaign) (atv_2:Int):Le (uy c_1 atv_2) (oD c_1 atv_2):=by
 unfold uy oD
 repeat' (with_reducible first | exact Le.refl _ | exact qR _ | refine Le.loop (λ_ => ?_) | refine Le.forL (λ_ _ _ => ?_) | refine Le.thenC (λ_ => ?_) (λ_ => ?_) | refine Le.cond ?_ ?_ | refine Le.bind ?_ (λ_ => ?_))
def kE (l_1:(List Beat)) (k_3:Nat) (x_5:Beat) (s_8:Unit):Option (Ctl (Unit) (Int)) :=
 (gp x_5.Player).bind λr_14=>bif (!r_14)then some (.ret 5)else ((dx x_5.At).bind λr_19=>bif (!r_19)then some true else (aP x_5.Clock 0 345686399999).bind λr_22=>some r_22).bind λv_17=>bif v_17 then some (.ret 1)else (bif (decide ((k_3:Int)>0))then (idx l_1 (w64 ((k_3:Int)-1))).bind λy_28=>(jK y_28 x_5).bind λr_30=>some (decide (r_30>=0))else some false).bind λv_25=>bif v_25 then some (.ret 7)else (bif (decide ((k_3:Int)>0))then (idx l_1 (w64 ((k_3:Int)-1))).bind λy_36=>bif (sEq x_5.Player y_36.Player)then (idx l_1 (w64 ((k_3:Int)-1))).bind λy_39=>some (decide (x_5.Clock<=y_39.Clock))else some false else some false).bind λv_33=>bif v_33 then some (.ret 16)else some (.go ())
theorem uj (l_1:(List Beat)) (k_3:Nat) (x_5:Beat) (s_8:Unit):Le (kE l_1 k_3 x_5 s_8) (gZ l_1 k_3 x_5 s_8):=by
 unfold kE gZ
 repeat' (with_reducible first | exact Le.refl _ | exact iV _ | refine Le.loop (λ_ => ?_) | refine Le.forL (λ_ _ _ => ?_) | refine Le.thenC (λ_ => ?_) (λ_ => ?_) | refine Le.cond ?_ ?_ | refine Le.bind ?_ (λ_ => ?_))
def ng (l_1:(List Beat)):Option (Int) :=
 bif (decide ((l_1.length:Int)>500))then some 2 else (forL l_1 () (λk x s=>kE l_1 k x s)).bind λo_11=>thenC o_11 (λs_8=>some 0) (λr=>some r)
theorem wP (l_1:(List Beat)):Le (ng l_1) (jq l_1):=by
 unfold ng jq
 repeat' (with_reducible first | exact Le.refl _ | exact uj _ _ _ _ | refine Le.loop (λ_ => ?_) | refine Le.forL (λ_ _ _ => ?_) | refine Le.thenC (λ_ => ?_) (λ_ => ?_) | refine Le.cond ?_ ?_ | refine Le.bind ?_ (λ_ => ?_))
def rF (l_1:(List Beat_)) (n_2:Int):Option (Int×Int) :=
 bif ((l_1.length:Int)==0)then some (0,8)else (sP 0 (λs=>lU l_1 n_2 s)).bind λo_12=>thenC o_12 (λs_9=>bif (s_9==0)then (idx l_1 0).bind λy_21=>(idx l_1 0).bind λy_23=>(dx (w64 (y_21.f_to-(w64 (y_23.f_from-n_2))))).bind λr_25=>bif (!r_25)then some (0,11)else some ((w64 (y_21.f_to-(w64 (y_23.f_from-n_2)))),0)else bif (s_9==(l_1.length:Int))then (idx l_1 (w64 (s_9-1))).bind λy_29=>(idx l_1 (w64 (s_9-1))).bind λy_31=>(dx (w64 ((w64 (y_29.f_to+n_2))-y_31.f_from))).bind λr_33=>bif (!r_33)then some (0,11)else some ((w64 ((w64 (y_29.f_to+n_2))-y_31.f_from)),0)else (idx l_1 (w64 (s_9-1))).bind λy_36=>(idx l_1 s_9).bind λy_38=>(bif (decide ((w64 (y_38.f_from-y_36.f_from))>2592000000))then some true else some (decide ((w64 (y_38.f_to-y_36.f_to))>2592000000))).bind λv_42=>bif v_42 then some (0,2)else (JN .i64 (w64 ((w64 (n_2-y_36.f_from))*(w64 (y_38.f_to-y_36.f_to)))) (w64 (y_38.f_from-y_36.f_from))).bind λq_46=>(dx (w64 (y_36.f_to+q_46))).bind λr_48=>bif (!r_48)then some (0,11)else some ((w64 (y_36.f_to+q_46)),0)) (λ_=>none)
theorem AZ (l_1:(List Beat_)) (n_2:Int):Le (rF l_1 n_2) (nk l_1 n_2):=by
 unfold rF nk
 repeat' (with_reducible first | exact Le.refl _ | refine Le.loop (λ_ => ?_) | refine Le.forL (λ_ _ _ => ?_) | refine Le.thenC (λ_ => ?_) (λ_ => ?_) | refine Le.cond ?_ ?_ | refine Le.bind ?_ (λ_ => ?_))
def tO (l_1:(List Beat)) (player_2:ByteArray) (n_3:Int) (back_4:Bool):Option (Int×Int) :=
 (ng l_1).bind λr_5=>bif (r_5 != 0)then some (0,r_5)else (gp player_2).bind λr_8=>bif (!r_8)then some (0,5)else (dx n_3).bind λr_11=>bif (!r_11)then some (0,1)else (oo l_1 player_2 back_4).bind λr_14=>(rF r_14 n_3).bind λr_16=>some (r_16.1,r_16.2)
theorem Dy (l_1:(List Beat)) (player_2:ByteArray) (n_3:Int) (back_4:Bool):Le (tO l_1 player_2 n_3 back_4) (oQ l_1 player_2 n_3 back_4):=by
 unfold tO oQ
 repeat' (with_reducible first | exact Le.refl _ | exact iV _ | exact wP _ | exact AZ _ _ | refine Le.loop (λ_ => ?_) | refine Le.forL (λ_ _ _ => ?_) | refine Le.thenC (λ_ => ?_) (λ_ => ?_) | refine Le.cond ?_ ?_ | refine Le.bind ?_ (λ_ => ?_))
def tL (l_1:(List Beat)) (player_2:ByteArray) (clock_3:Int):Option (Int×Int) :=
 (tO l_1 player_2 clock_3 false).bind λr_4=>some (r_4.1,r_4.2)
theorem Dk (l_1:(List Beat)) (player_2:ByteArray) (clock_3:Int):Le (tL l_1 player_2 clock_3) (oL l_1 player_2 clock_3):=by
 unfold tL oL
 repeat' (with_reducible first | exact Le.refl _ | exact Dy _ _ _ _ | refine Le.loop (λ_ => ?_) | refine Le.forL (λ_ _ _ => ?_) | refine Le.thenC (λ_ => ?_) (λ_ => ?_) | refine Le.cond ?_ ?_ | refine Le.bind ?_ (λ_ => ?_))
def lG (a_1:Alert) (k_4:Nat) (x_6:ByteArray) (s_9:Unit):Option (Ctl (Unit) (Int)) :=
 (gp x_6).bind λr_14=>bif (!r_14)then some (.ret 5)else (bif (decide ((k_4:Int)>0))then (idx a_1.Refs (w64 ((k_4:Int)-1))).bind λy_20=>some (sLe x_6 y_20)else some false).bind λv_17=>bif v_17 then some (.ret 7)else bif (sEq x_6 a_1.Id)then some (.ret 14)else some (.go ())
theorem uM (a_1:Alert) (k_4:Nat) (x_6:ByteArray) (s_9:Unit):Le (lG a_1 k_4 x_6 s_9) (iJ a_1 k_4 x_6 s_9):=by
 unfold lG iJ
 repeat' (with_reducible first | exact Le.refl _ | exact iV _ | refine Le.loop (λ_ => ?_) | refine Le.forL (λ_ _ _ => ?_) | refine Le.thenC (λ_ => ?_) (λ_ => ?_) | refine Le.cond ?_ ?_ | refine Le.bind ?_ (λ_ => ?_))
def nR (a_1:Alert):Option (Int) :=
 bif (decide ((a_1.Refs.length:Int)>20))then some 2 else (forL a_1.Refs () (λk x s=>lG a_1 k x s)).bind λo_12=>thenC o_12 (λs_9=>bif (!((a_1.Kind==1)==((a_1.Refs.length:Int)==0)))then some 3 else some 0) (λr=>some r)
theorem x8 (a_1:Alert):Le (nR a_1) (jT a_1):=by
 unfold nR jT
 repeat' (with_reducible first | exact Le.refl _ | exact uM _ _ _ _ | refine Le.loop (λ_ => ?_) | refine Le.forL (λ_ _ _ => ?_) | refine Le.thenC (λ_ => ?_) (λ_ => ?_) | refine Le.cond ?_ ?_ | refine Le.bind ?_ (λ_ => ?_))
def tH (s_1:ByteArray):Option (Bool) :=
 (sP 0 (λs=>ny s_1 s)).bind λo_10=>thenC o_10 (λs_7=>((jg s_1).bind λr_23=>bif r_23 then (sW s_1 (⟨#[32]⟩:ByteArray)).bind λr_26=>bif (sEq r_26 s_1)then (strings_Contains s_1 (⟨#[32,32]⟩:ByteArray)).bind λr_29=>some (!r_29)else some false else some false).bind λv_21=>some v_21) (λr=>some r)
theorem BV (s_1:ByteArray):Le (tH s_1) (ow s_1):=by
 unfold tH ow
 repeat' (with_reducible first | exact Le.refl _ | refine Le.loop (λ_ => ?_) | refine Le.forL (λ_ _ _ => ?_) | refine Le.thenC (λ_ => ?_) (λ_ => ?_) | refine Le.cond ?_ ?_ | refine Le.bind ?_ (λ_ => ?_))
def mV (a_1:Alert):Option (Int) :=
 ((gp a_1.Id).bind λr_5=>bif (!r_5)then some true else (gp a_1.Sender).bind λr_8=>some (!r_8)).bind λv_3=>bif v_3 then some 5 else (aP a_1.Kind 1 3).bind λr_11=>bif r_11 then some 4 else (nR a_1).bind λr_14=>bif (r_14 != 0)then some r_14 else ((dx a_1.At).bind λr_19=>bif (!r_19)then some true else (aP a_1.Until (w64 (a_1.At+1)) (w64 (a_1.At+2592000000))).bind λr_22=>bif r_22 then some true else (aP a_1.Weight 1 9).bind λr_25=>some r_25).bind λv_17=>bif v_17 then some 1 else bif (decide ((a_1.Areas.length:Int)>20))then some 2 else (forL a_1.Areas () (λk x s=>ji k x s)).bind λo_37=>thenC o_37 (λs_34=>bif (!((a_1.Kind==3)==((a_1.Areas.length:Int)==0)))then some 3 else bif (decide ((a_1.Text.size:Int)>500))then some 2 else ((tH a_1.Text).bind λr_47=>bif (!r_47)then some true else bif (sEq a_1.Text (⟨#[]⟩:ByteArray))then some (!(a_1.Kind==3))else some false).bind λv_45=>bif v_45 then some 3 else some 0) (λr=>some r)
theorem wU (a_1:Alert):Le (mV a_1) (jk a_1):=by
 unfold mV jk
 repeat' (with_reducible first | exact Le.refl _ | exact iV _ | exact x8 _ | exact BV _ | refine Le.loop (λ_ => ?_) | refine Le.forL (λ_ _ _ => ?_) | refine Le.thenC (λ_ => ?_) (λ_ => ?_) | refine Le.cond ?_ ?_ | refine Le.bind ?_ (λ_ => ?_))
def jU (l_1:(List Alert)) (k_3:Nat) (x_5:Alert) (s_8:Unit):Option (Ctl (Unit) (Int)) :=
 (mV x_5).bind λr_14=>bif (r_14 != 0)then some (.ret r_14)else (bif (decide ((k_3:Int)>0))then (idx l_1 (w64 ((k_3:Int)-1))).bind λy_20=>(og y_20 x_5).bind λr_22=>some (decide (r_22>=0))else some false).bind λv_17=>bif v_17 then some (.ret 7)else some (.go ())
theorem sD (l_1:(List Alert)) (k_3:Nat) (x_5:Alert) (s_8:Unit):Le (jU l_1 k_3 x_5 s_8) (gG l_1 k_3 x_5 s_8):=by
 unfold jU gG
 repeat' (with_reducible first | exact Le.refl _ | exact wU _ | refine Le.loop (λ_ => ?_) | refine Le.forL (λ_ _ _ => ?_) | refine Le.thenC (λ_ => ?_) (λ_ => ?_) | refine Le.cond ?_ ?_ | refine Le.bind ?_ (λ_ => ?_))
def mo (l_1:(List Alert)):Option (Int) :=
 bif (decide ((l_1.length:Int)>300))then some 2 else (forL l_1 () (λk x s=>jU l_1 k x s)).bind λo_11=>thenC o_11 (λs_8=>(forL l_1 ([]:List (ByteArray×Bool)) (λk x s=>iT k x s)).bind λo_34=>thenC o_34 (λs_31=>some 0) (λr=>some r)) (λr=>some r)
theorem vX (l_1:(List Alert)):Le (mo l_1) (jb l_1):=by
 unfold mo jb
 repeat' (with_reducible first | exact Le.refl _ | exact sD _ _ _ _ | refine Le.loop (λ_ => ?_) | refine Le.forL (λ_ _ _ => ?_) | refine Le.thenC (λ_ => ?_) (λ_ => ?_) | refine Le.cond ?_ ?_ | refine Le.bind ?_ (λ_ => ?_))
def kz (l_1:(List Post)) (k_3:Nat) (x_5:Post) (s_8:Unit):Option (Ctl (Unit) (Int)) :=
 (gp x_5.Player).bind λr_14=>bif (!r_14)then some (.ret 5)else ((aP x_5.X (-100000) 100000).bind λr_19=>bif r_19 then some true else (aP x_5.Y (-100000) 100000).bind λr_22=>some r_22).bind λv_17=>bif v_17 then some (.ret 1)else (bif (decide ((k_3:Int)>0))then (idx l_1 (w64 ((k_3:Int)-1))).bind λy_28=>some (sLe x_5.Player y_28.Player)else some false).bind λv_25=>bif v_25 then some (.ret 7)else some (.go ())
theorem tF (l_1:(List Post)) (k_3:Nat) (x_5:Post) (s_8:Unit):Le (kz l_1 k_3 x_5 s_8) (gY l_1 k_3 x_5 s_8):=by
 unfold kz gY
 repeat' (with_reducible first | exact Le.refl _ | exact iV _ | refine Le.loop (λ_ => ?_) | refine Le.forL (λ_ _ _ => ?_) | refine Le.thenC (λ_ => ?_) (λ_ => ?_) | refine Le.cond ?_ ?_ | refine Le.bind ?_ (λ_ => ?_))
def mQ (l_1:(List Post)):Option (Int) :=
 bif (decide ((l_1.length:Int)>500))then some 2 else (forL l_1 () (λk x s=>kz l_1 k x s)).bind λo_11=>thenC o_11 (λs_8=>some 0) (λr=>some r)
theorem wT (l_1:(List Post)):Le (mQ l_1) (jv l_1):=by
 unfold mQ jv
 repeat' (with_reducible first | exact Le.refl _ | exact tF _ _ _ _ | refine Le.loop (λ_ => ?_) | refine Le.forL (λ_ _ _ => ?_) | refine Le.thenC (λ_ => ?_) (λ_ => ?_) | refine Le.cond ?_ ?_ | refine Le.bind ?_ (λ_ => ?_))
def nD (l_1:(List Alert)) (posts_2:(List Post)):Option (Int) :=
 (mo l_1).bind λr_3=>bif (r_3 != 0)then some r_3 else (mQ posts_2).bind λr_6=>some r_6
theorem xR (l_1:(List Alert)) (posts_2:(List Post)):Le (nD l_1 posts_2) (jR l_1 posts_2):=by
 unfold nD jR
 repeat' (with_reducible first | exact Le.refl _ | exact vX _ | exact wT _ | refine Le.loop (λ_ => ?_) | refine Le.forL (λ_ _ _ => ?_) | refine Le.thenC (λ_ => ?_) (λ_ => ?_) | refine Le.cond ?_ ?_ | refine Le.bind ?_ (λ_ => ?_))
def qj (a_1:Alert) (p_2:Post):Option (Bool×Int) :=
 (nD ([a_1]:List Alert) ([p_2]:List Post)).bind λr_5=>bif (r_5 != 0)then some (false,r_5)else (oh a_1 p_2).bind λr_8=>some (r_8,0)
theorem zu (a_1:Alert) (p_2:Post):Le (qj a_1 p_2) (lQ a_1 p_2):=by
 unfold qj lQ
 repeat' (with_reducible first | exact Le.refl _ | exact xR _ _ | refine Le.loop (λ_ => ?_) | refine Le.forL (λ_ _ _ => ?_) | refine Le.thenC (λ_ => ?_) (λ_ => ?_) | refine Le.cond ?_ ?_ | refine Le.bind ?_ (λ_ => ?_))
def vT  : Option (Bool) :=
 (uf ([(⟨0,0,2,2⟩:Rect),(⟨1,1,2,2⟩:Rect)]:List Rect)).bind λr_1=>(o5 (⟨(⟨#[97]⟩:ByteArray),(⟨#[98]⟩:ByteArray),0,0,0,1,127,([]:List Int),1,2,0,([]:List ByteArray),false⟩:Entry) 0 (⟨0,86400000⟩:Window)).bind λr_3=>(uy (⟨(⟨#[97]⟩:ByteArray),(⟨#[]⟩:ByteArray),(⟨0,100⟩:Window),([]:List ByteArray),10,0,0⟩:Campaign) 50).bind λr_5=>(tL ([(⟨(⟨#[112]⟩:ByteArray),0,100⟩:Beat),(⟨(⟨#[112]⟩:ByteArray),1000,1300⟩:Beat)]:List Beat) (⟨#[112]⟩:ByteArray) 700).bind λr_7=>(qj (⟨(⟨#[97]⟩:ByteArray),(⟨#[115]⟩:ByteArray),1,([]:List ByteArray),0,5,1,([(⟨0,0,2,2⟩:Rect)]:List Rect),(⟨#[120]⟩:ByteArray)⟩:Alert) (⟨(⟨#[112]⟩:ByteArray),1,1⟩:Post)).bind λr_10=>((ww ([r_1.2,r_3.2,r_5.2,r_7.2,r_10.2]:List Int)).bind λr_14=>bif (r_14==0)then bif (r_1.1==7)then bif ((r_3.1.length:Int)==1)then bif (r_5.1==5)then bif (r_7.1==500)then some r_10.1 else some false else some false else some false else some false else some false).bind λv_12=>some v_12
theorem DI  : Le (vT) (mf):=by
 unfold vT mf
 repeat' (with_reducible first | exact Le.refl _ | exact Bz _ | exact y9 _ _ _ | exact Dv _ _ | exact Dk _ _ _ | exact zu _ _ | refine Le.loop (λ_ => ?_) | refine Le.forL (λ_ _ _ => ?_) | refine Le.thenC (λ_ => ?_) (λ_ => ?_) | refine Le.cond ?_ ?_ | refine Le.bind ?_ (λ_ => ?_))
theorem ready_F:vT=some true:=by kernel_rfl
theorem H7:mf=some true:=DI _ ready_F
theorem Lv {e:Entry} (h:TinyE e):iq e e=some true :=
 LG e (BO h)
  (by have:=(qY (Gt h.key)).2.2.2;rw [Lib.size_eq];omega)
  (by have:=(qY (Eo h.item)).2.2.2;rw [Lib.size_eq];omega)
  (by have:=h.days.length_le;simp only [List.length_cons,List.length_nil]at this;omega)
  (by have:=h.tags.length_le;simp only [tgL,List.length_cons,List.length_nil]at this;omega)
theorem entriesComeBack (l:List Int):jf l=some true:=by
 have h0:Ok (⟨l,0⟩:Stream) 0:=⟨Int.le_refl _,Int.le_refl _⟩
 obtain ⟨es,s1,a1,a2,a3,a4,a5⟩:=M8 ⟨l,0⟩ h0 (by decide)
 have hc:bA es=some 0:=by
  have:=entsK (l:=es) (λe he=>(a4 e he).1) (by omega)
  rw [a5]at this
  exact this
 have ht:∀e∈es,TinyE e:=λe he=>(a4 e he).2
 obtain ⟨u,b1,b2⟩:=ET s1 a2 (by decide)
 have hu:u.1.data.toList.length<=900:=by rw [<- Lib.size_eq];exact b2
 obtain ⟨r,c1,c2⟩:=LW u.1.data.toList hu
 rw [show SB u.1.data.toList=u.1 from rfl]at c1 c2
 unfold jf
 simp only [a1,I1 ht a3 hc,Jz ht a3 hc,MW es (λe he=>Lv (ht e he)) (by omega),ob_,bne_self_eq_false,cond_false,Bool.not_true,b1,c1]
 by_cases hr:r.2.2=0
 ·simp only [hr,beq_self_eq_true,cond_true,c2 hr,ob_,(dU u.1 u.1).2 rfl,H7]
 ·rw [show (r.2.2==0)=false by simpa using hr]
  simp only [cond_false,H7,ob_]
end Go.Proofs.YtigdobmllbakiaaGreatDoor.Law

