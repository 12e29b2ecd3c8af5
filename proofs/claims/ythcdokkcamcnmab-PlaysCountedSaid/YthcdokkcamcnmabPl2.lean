/-
  THE PLAIN LAW (part 2).
-/
import Derived.Test.YthcdokkcamcnmabPl1
open Go Go.Eng
namespace Go.Proofs.Ythcdokkcamcnmab.Law
set_option linter.unusedVariables false
set_option linter.unusedSimpArgs false
def dayZ (p:Play) (zone:Int):Int:=(p.At + zone * 60000) / 86400000
theorem day_eq {p:Play} {zone:Int} (hp:0≤p.At∧p.At≤345686399999) (hz : -1440≤zone∧zone≤1440):proof_dayOf p.At zone=some (dayZ p zone):=by
 unfold proof_dayOf dayZ
 have h1:w64 (zone * 60000)=zone * 60000:=w64_id (by omega)
 have h2:w64 (p.At + zone * 60000)=p.At + zone * 60000:=w64_id (by omega)
 have h3:w64 (p.At + zone * 60000 + 86400000)=p.At + zone * 60000 + 86400000:=w64_id (by omega)
 rw [h1,h2,h3,Int.tdiv_eq_ediv_of_nonneg (by omega),w64_id (n:=(p.At + zone * 60000 + 86400000) / 86400000) (by omega),w64_id (by omega)]
 congr 1; omega
theorem floor_eq {n:Int} (h : -1000000000000≤n∧n≤1000000000000):ref_floor n 86400000=some (n / 86400000):=by
 unfold ref_floor remO quoO
 rw [if_neg (by decide),Option.bind_some,if_neg (by decide),Option.bind_some,Option.bind_some]
 have hw:∀ m:Int,-2000000000000≤m∧m≤2000000000000→IntKind.i64.wrap m=m:=fun m hm=>w64_id (n:=m) (by omega)
 by_cases h0:0≤n
 ·have e1:n.tmod 86400000=n % 86400000:=Int.tmod_eq_emod_of_nonneg h0
  have e2:n.tdiv 86400000=n / 86400000:=Int.tdiv_eq_ediv_of_nonneg h0
  rw [e1,e2,decide_eq_false (by omega),cond_false,hw _ (by omega)]
 ·obtain ⟨m,rfl⟩:∃ m,n = -m:=⟨-n,by omega⟩
  rw [Int.neg_tmod,Int.neg_tdiv,Int.tmod_eq_emod_of_nonneg (by omega),Int.tdiv_eq_ediv_of_nonneg (by omega),hw _ (by omega)]
  by_cases h1 : -(m % 86400000) < 0
  ·rw [decide_eq_true h1,cond_true,w64_id (by omega)]; congr 1; omega
  ·rw [decide_eq_false h1,cond_false]; congr 1; omega
theorem floorZ {p:Play} {zone:Int} (hp:0≤p.At∧p.At≤345686399999) (hz : -1440≤zone∧zone≤1440):ref_floor (w64 (p.At + (w64 (zone * 60000)))) 86400000=some (dayZ p zone):=by
 rw [w64_id (n:=zone * 60000) (by omega),w64_id (n:=p.At + zone * 60000) (by omega)]
 exact floor_eq (by omega)
def sameK (k t:Tally):Bool:=decide (t.Player=k.Player) && (decide (t.Item=k.Item) && decide (t.Day=k.Day))
theorem sameK_iff {k t:Tally}:sameK k t=true↔t.Player=k.Player∧t.Item=k.Item∧t.Day=k.Day:=by unfold sameK; simp
def ixT (k:Tally):List Tally→Option Nat
 | []=>none
 | t::ts=>if sameK k t=true then some 0 else (ixT k ts).map (· + 1)
theorem ixT_some {k:Tally}:∀ {ts:List Tally} {i:Nat},ixT k ts=some i → ∃ t,ts[i]? = some t∧sameK k t=true
 | t::ts,i,h=>by
  simp only [ixT]at h
  split at h
  ·rename_i h1
   simp only [Option.some.injEq]at h; subst h
   exact⟨t,rfl,h1⟩
  ·simp only [Option.map_eq_some_iff]at h
   obtain ⟨j,hj,rfl⟩:=h
   obtain ⟨t',h1,h2⟩:=ixT_some hj
   exact⟨t',by simpa using h1,h2⟩
 | [],_,h=>by cases h
theorem ixT_none {k:Tally}:∀ {ts:List Tally},ixT k ts=none → ∀ t∈ts,sameK k t=false
 | t::ts,h=>by
  simp only [ixT]at h
  split at h
  ·cases h
  ·rename_i h1
   simp only [Option.map_eq_none_iff]at h
   intro x hx
   rcases List.mem_cons.1 hx with rfl | hx
   ·simpa using h1
   ·exact ixT_none h x hx
 | [],_=>fun x hx=>by cases hx
theorem ixT_app {k:Tally} {x:Tally} (hx:sameK k x=true):∀ {ts:List Tally},ixT k ts=none→ixT k (ts ++ [x])=some ts.length
 | [],_=>by simp [ixT,hx]
 | t::ts,h=>by
  simp only [ixT]at h
  split at h
  ·cases h
  ·rename_i h1
   simp only [Option.map_eq_none_iff]at h
   simp only [List.cons_append,ixT,if_neg h1,ixT_app hx h,Option.map_some,List.length_cons]
theorem ixT_set {k x y:Tally} {i:Nat} (hs:sameK k x=sameK k y):∀ {ts:List Tally} {j:Nat},ts[j]? = some x→ixT k (ts.set j y)=ixT k ts
 | t::ts,0,h=>by
  simp only [List.getElem?_cons_zero,Option.some.injEq]at h; subst h
  simp only [List.set_cons_zero,ixT,hs]
 | t::ts,j + 1,h=>by
  simp only [List.set_cons_succ,ixT,ixT_set (i:=i) hs (ts:=ts) (j:=j) (by simpa using h)]
 | [],_,h=>by cases h
def kT (p:Play) (zone:Int):Tally:=⟨p.Player,p.Item,dayZ p zone,0,0⟩
def upT (t:Tally) (p:Play):Tally:=⟨t.Player,t.Item,t.Day,t.Many + 1,t.Long + p.Long⟩
def withK (zone:Int) (ts:List Tally) (p:Play):List Tally:=match ixT (kT p zone) ts with | none=>ts ++ [kT p zone] | some _=>ts
theorem withK_ix (zone:Int) (ts:List Tally) (p:Play):∃ i t,ixT (kT p zone) (withK zone ts p)=some i∧(withK zone ts p)[i]? = some t∧sameK (kT p zone) t=true:=by
 have hk:sameK (kT p zone) (kT p zone)=true:=sameK_iff.2 ⟨rfl,rfl,rfl⟩
 unfold withK
 cases h:ixT (kT p zone) ts with
 | none =>
  refine⟨ts.length,kT p zone,ixT_app hk h,by simp,hk⟩
 | some i =>
  obtain ⟨t,h1,h2⟩:=ixT_some h
  exact⟨i,t,h,h1,h2⟩
def stepT (zone:Int) (ts:List Tally) (p:Play):List Tally:=match ixT (kT p zone) (withK zone ts p)with
 | none=>ts
 | some i=>match (withK zone ts p)[i]? with
  | none=>ts
  | some t=>(withK zone ts p).set i (upT t p)
theorem stepT_eq {zone:Int} {ts:List Tally} {p:Play} {i:Nat} {t:Tally} (h1:ixT (kT p zone) (withK zone ts p)=some i) (h2:(withK zone ts p)[i]? = some t):stepT zone ts p=(withK zone ts p).set i (upT t p):=by
 unfold stepT; rw [h1]; simp only [h2]
structure TT (n:Nat) (ts:List Tally):Prop where
 len:ts.length≤n
 day:∀ t∈ts,-1000000≤t.Day∧t.Day≤1000000
 many:∀ t∈ts,0≤t.Many∧t.Many≤n
 lo:∀ t∈ts,0≤t.Long∧t.Long≤86400000 * n
 dif:ts.Pairwise (fun a b=>sameK a b=false)
theorem sameK_symm {a b:Tally}:sameK a b=sameK b a:=by
 rw [Bool.eq_iff_iff,sameK_iff,sameK_iff]
 exact⟨fun⟨h1,h2,h3⟩=>⟨h1.symm,h2.symm,h3.symm⟩,fun⟨h1,h2,h3⟩=>⟨h1.symm,h2.symm,h3.symm⟩⟩
theorem dayZ_in {p:Play} {zone:Int} (hp:0≤p.At∧p.At≤345686399999) (hz : -1440≤zone∧zone≤1440) : -1000000≤dayZ p zone∧dayZ p zone≤1000000:=by
 unfold dayZ; omega
theorem withK_tt {zone:Int} {n:Nat} {ts:List Tally} {p:Play} (h:TT n ts) (hp:0≤p.At∧p.At≤345686399999) (hz : -1440≤zone∧zone≤1440):TT (n + 1) (withK zone ts p):=by
 obtain ⟨h1,h2,h3,h4,h5⟩:=h
 unfold withK
 cases hi:ixT (kT p zone) ts with
 | some i=>exact⟨by simp only []; omega,h2,fun t ht=>by have:=h3 t ht; omega,fun t ht=>by have:=h4 t ht; omega,h5⟩
 | none =>
  have hd:=dayZ_in hp hz
  refine⟨by simp; omega,fun t ht => ?_,fun t ht => ?_,fun t ht => ?_,?_⟩
  ·rcases List.mem_append.1 ht with ht | ht
   ·exact h2 t ht
   ·rw [List.mem_singleton.1 ht]; exact hd
  ·rcases List.mem_append.1 ht with ht | ht
   ·have:=h3 t ht; omega
   ·rw [List.mem_singleton.1 ht]; show (0:Int)≤0∧(0:Int)≤_; omega
  ·rcases List.mem_append.1 ht with ht | ht
   ·have:=h4 t ht; omega
   ·rw [List.mem_singleton.1 ht]; show (0:Int)≤0∧(0:Int)≤_; omega
  ·refine List.pairwise_append.2 ⟨h5,List.pairwise_singleton _ _,fun a ha b hb => ?_⟩
   rw [List.mem_singleton.1 hb,sameK_symm]
   exact ixT_none hi a ha
theorem stepT_tt {zone:Int} {n:Nat} {ts:List Tally} {p:Play} (h:TT n ts) (hp:0≤p.At∧p.At≤345686399999) (hl:1≤p.Long∧p.Long≤86400000) (hz : -1440≤zone∧zone≤1440):TT (n + 1) (stepT zone ts p):=by
 obtain ⟨i,t,i1,i2,i3⟩:=withK_ix zone ts p
 rw [stepT_eq i1 i2]
 have hw:=withK_tt h hp hz
 have hn:∀ x∈withK zone ts p,x.Many≤n∧x.Long≤86400000 * n:=fun x hx=>by
  unfold withK at hx
  split at hx
  ·rcases List.mem_append.1 hx with hx | hx
   ·exact⟨(h.many x hx).2,(h.lo x hx).2⟩
   ·rw [List.mem_singleton.1 hx]; show (0:Int)≤n∧(0:Int)≤86400000 * n; omega
  ·exact⟨(h.many x hx).2,(h.lo x hx).2⟩
 have ht:=List.mem_of_getElem? i2
 obtain ⟨n1,n2⟩:=hn t ht
 obtain ⟨h1,h2,h3,h4,h5⟩:=hw
 refine⟨by rw [List.length_set]; exact h1,all_set h2 (h2 t ht),all_set h3 ?_,all_set h4 ?_,?_⟩
 ·have:=h3 t ht; show 0≤t.Many + 1∧t.Many + 1≤((n + 1:Nat):Int); omega
 ·have:=h4 t ht; show 0≤t.Long + p.Long∧t.Long + p.Long≤86400000 * ((n + 1:Nat):Int); omega
 ·refine List.pairwise_iff_getElem.2 (fun a b ha hb hab => ?_)
  simp only [List.length_set]at ha hb
  have hp:=List.pairwise_iff_getElem.1 h5 a b ha hb hab
  obtain ⟨hil,hit⟩:=List.getElem?_eq_some_iff.1 i2
  have e:∀ j (hj:j < (withK zone ts p).length),sameK (((withK zone ts p).set i (upT t p))[j]'(by rw [List.length_set]; exact hj))=sameK (withK zone ts p)[j] ∧ ∀ k,sameK k (((withK zone ts p).set i (upT t p))[j]'(by rw [List.length_set]; exact hj))=sameK k (withK zone ts p)[j]:=fun j hj=>by
   rw [List.getElem_set]
   split
   ·rename_i e; subst e; rw [hit]; exact⟨rfl,fun _=>rfl⟩
   ·exact⟨rfl,fun _=>rfl⟩
  rw [(e a ha).1,(e b hb).2]; exact hp
def foldT (zone:Int) (l:List Play):List Tally:=l.foldl (stepT zone) []
theorem foldT_snoc (zone:Int) (l:List Play) (p:Play):foldT zone (l ++ [p])=stepT zone (foldT zone l) p:=by unfold foldT; rw [List.foldl_append]; rfl
theorem foldT_tt {zone:Int} (hz : -1440≤zone∧zone≤1440):∀ (l:List Play),(∀ x∈l,0≤x.At∧x.At≤345686399999)→(∀ x∈l,1≤x.Long∧x.Long≤86400000)→TT l.length (foldT zone l):=by
 have key:∀ (l:List Play) (n:Nat) (ts:List Tally),(∀ x∈l,0≤x.At∧x.At≤345686399999)→(∀ x∈l,1≤x.Long∧x.Long≤86400000)→TT n ts→TT (n + l.length) (l.foldl (stepT zone) ts):=by
  intro l
  induction l with
  | nil=>intro n ts _ _ h; exact h
  | cons p l ih =>
   intro n ts ha hl h
   have:=ih (n + 1) (stepT zone ts p) (fun x hx=>ha x (by simp [hx])) (fun x hx=>hl x (by simp [hx])) (stepT_tt h (ha p (by simp)) (hl p (by simp)) hz)
   rw [List.foldl_cons,List.length_cons,show n + (l.length + 1)=n + 1 + l.length by omega]; exact this
 intro l ha hl
 have:=key l 0 [] ha hl ⟨by simp,fun t ht=>(by cases ht),fun t ht=>(by cases ht),fun t ht=>(by cases ht),List.Pairwise.nil⟩
 rw [Nat.zero_add]at this; exact this
theorem ixF_T {ts:List Tally} (hl:ts.length≤1000) (k:Tally):slices_IndexFunc_api_Tally_api_Tally_v1 ts k=some (match ixT k ts with | none => -1 | some i=>(i:Int)):=by
 have e:slices_IndexFunc_api_Tally_api_Tally_v1 ts k=ixF (fun e=>ref_CountsOf_1 e k) ts:=rfl
 have hf:∀ x∈ts,ref_CountsOf_1 x k=some (sameK k x):=fun x _=>by
  unfold ref_CountsOf_1 sameK
  rw [sEq_dec,sEq_dec]
  cases decide (x.Player=k.Player) <;> cases decide (x.Item=k.Item) <;> rfl
 rw [e]
 rcases ixF_eq hf (by omega)with⟨h1,h2⟩ | ⟨i,hi,h1,h2,h3⟩
 ·rw [h1]
  have:ixT k ts=none:=by
   clear h1 e hf hl
   induction ts with
   | nil=>rfl
   | cons t ts ih =>
    have h4:=h2 t (by simp)
    simp only [ixT,h4,Bool.false_eq_true,if_false,ih (fun x hx=>h2 x (by simp [hx])),Option.map_none]
  rw [this]
 ·rw [h1]
  have:ixT k ts=some i:=by
   clear h1 e hf hl
   induction ts generalizing i with
   | nil=>simp at hi
   | cons t ts ih =>
    cases i with
    | zero=>simp only [List.getElem_cons_zero]at h2; simp only [ixT,h2,if_true]
    | succ i =>
     have h4:sameK k t=false:=h3 t (by simp)
     simp only [List.getElem_cons_succ]at h2
     simp only [ixT,h4,Bool.false_eq_true,if_false,ih i (by simpa using hi) h2 (fun x hx=>h3 x (by simp [hx])),Option.map_some]
  rw [this]
theorem ref_step {zone:Int} (hz : -1440≤zone∧zone≤1440) {ts:List Tally} {n:Nat} (hn:n≤100) (h:TT n ts) {p:Play} (hp:0≤p.At∧p.At≤345686399999) (hl:1≤p.Long∧p.Long≤86400000) (k:Nat):ref_CountsOf_L1 zone k p ts=some (.go (stepT zone ts p)):=by
 obtain ⟨i,t,i1,i2,i3⟩:=withK_ix zone ts p
 have hw:=withK_tt h hp hz
 have hlen:=h.len
 have hwl:=hw.len
 obtain ⟨hil,hit⟩:=List.getElem?_eq_some_iff.1 i2
 have ht:=List.mem_of_getElem? i2
 have m1:=hw.many t ht
 have m2:=hw.lo t ht
 unfold ref_CountsOf_L1
 rw [floorZ hp hz,Option.bind_some]
 have hv:((slices_IndexFunc_api_Tally_api_Tally_v1 ts (⟨p.Player,p.Item,dayZ p zone,0,0⟩:Tally)).bind fun r_20=>(bif (decide (r_20 < 0))then (appL ts ([(⟨p.Player,p.Item,dayZ p zone,0,0⟩:Tally)]:List Tally)).bind fun a_26=>some (a_26,(ts.length:Int))else some (ts,r_20)))=some (withK zone ts p,(i:Int)):=by
  have:=ixF_T (ts:=ts) (by omega) (kT p zone)
  rw [show slices_IndexFunc_api_Tally_api_Tally_v1 ts (⟨p.Player,p.Item,dayZ p zone,0,0⟩:Tally)=_ from this,Option.bind_some]
  unfold withK at i1 ⊢
  cases hi:ixT (kT p zone) ts with
  | none =>
   rw [hi]at i1
   simp only []at i1 ⊢
   rw [ixT_app (sameK_iff.2 ⟨rfl,rfl,rfl⟩) hi,Option.some.injEq]at i1
   subst i1
   rw [decide_eq_true (by decide),cond_true,appL_ok _ _ (by simp; omega)]; rfl
  | some j =>
   rw [hi]at i1
   simp only []at i1 ⊢
   rw [hi,Option.some.injEq]at i1
   subst i1
   rw [decide_eq_false (by omega)]; rfl
 rw [← Option.bind_assoc,hv,Option.bind_some]
 have e0:(0 + ((i:Int)).toNat)=i:=by omega
 simp only [e0,inR_ok (xs:=withK zone ts p) (i:=(i:Int)) (by omega) (by omega),i2,Option.bind_some]
 rw [inR_ok (by omega) (by rw [List.length_set]; omega)]
 simp only [Option.bind_some,set_at hil,List.set_set]
 rw [stepT_eq i1 i2,w64_id (n:=t.Many + 1) (by omega),w64_id (n:=t.Long + p.Long) (by omega)]; rfl
theorem eqB_iff (a b:ByteArray):(a == b)=true↔a=b:=by
 obtain ⟨x⟩:=a
 obtain ⟨y⟩:=b
 refine⟨fun h => ?_,fun h => ?_⟩
 ·have h1:(x == y)=true:=h
  rw [eq_of_beq h1]
 ·cases h
  show (x == x)=true
  exact beq_self_eq_true x
theorem mi_ix {eq:Tally→Tally→Bool} {k:Tally} (he:∀ a b:Tally,eq a b=(eqS a.Player b.Player && (eqS a.Item b.Item && (eqI a.Day b.Day && (eqI a.Many b.Many && (eqI a.Long b.Long && true)))))) (hk:k.Many=0∧k.Long=0):∀ {es:List (Tally×Tally)},(∀ e∈es,e.1=⟨e.2.Player,e.2.Item,e.2.Day,0,0⟩)→mIdx eq k es=ixT k (es.map (·.2))
 | [],_=>rfl
 | e::es,h=>by
  have h1:=h e (by simp)
  have hs:eq k e.1=sameK k e.2:=by
   rw [he,h1]
   simp only [hk.1,hk.2,eqI,eqS,beq_self_eq_true,Bool.and_true]
   unfold sameK
   have a1:(k.Player == e.2.Player)=decide (e.2.Player=k.Player):=by rw [Bool.eq_iff_iff,eqB_iff,decide_eq_true_eq]; exact eq_comm
   have a2:(k.Item == e.2.Item)=decide (e.2.Item=k.Item):=by rw [Bool.eq_iff_iff,eqB_iff,decide_eq_true_eq]; exact eq_comm
   have a3:(k.Day == e.2.Day)=decide (e.2.Day=k.Day):=by rw [Bool.eq_iff_iff,beq_iff_eq,decide_eq_true_eq]; exact eq_comm
   rw [a1,a2,a3]
  have ih:=mi_ix he hk (es:=es) (fun x hx=>h x (List.mem_cons_of_mem _ hx))
  simp only [mIdx,List.map_cons,ixT,hs,ih]
def ES (es:List (Tally×Tally)) (ts:List Tally):Prop:=es.map (·.2)=ts ∧ ∀ e∈es,e.1=⟨e.2.Player,e.2.Item,e.2.Day,0,0⟩
theorem code_step {zone:Int} (hz : -1440≤zone∧zone≤1440) {es:List (Tally×Tally)} {ts:List Tally} {n:Nat} (hn:n≤100) (hE:ES es ts) (h:TT n ts) {p:Play} (hp:0≤p.At∧p.At≤345686399999) (hl:1≤p.Long∧p.Long≤86400000) (k:Nat) :
  ∃ es',proof_Counts_L1 zone k p es=some (.go es')∧ES es' (stepT zone ts p):=by
 obtain ⟨i,t,i1,i2,i3⟩:=withK_ix zone ts p
 have hw:=withK_tt h hp hz
 obtain ⟨hil,hit⟩:=List.getElem?_eq_some_iff.1 i2
 have ht:=List.mem_of_getElem? i2
 have m1:=hw.many t ht
 have m2:=hw.lo t ht
 obtain ⟨e1,e2⟩:=hE
 generalize heq:(fun (a b:Tally)=>(eqS a.Player b.Player && (eqS a.Item b.Item && (eqI a.Day b.Day && (eqI a.Many b.Many && (eqI a.Long b.Long && true))))))=eq
 have he:∀ a b:Tally,eq a b=(eqS a.Player b.Player && (eqS a.Item b.Item && (eqI a.Day b.Day && (eqI a.Many b.Many && (eqI a.Long b.Long && true))))):=fun a b=>by rw [← heq]
 unfold proof_Counts_L1
 rw [day_eq hp hz,Option.bind_some]
 simp only [heq]
 have hK:(⟨p.Player,p.Item,dayZ p zone,0,0⟩:Tally)=kT p zone:=rfl
 simp only [hK]
 have hv:∃ v,(bif (mIdx eq (kT p zone) es).isNone then (noneO (mIdx eq (kT p zone) es)).bind fun _=>some (es ++ [(kT p zone,kT p zone)])else some es)=some v∧v.map (·.2)=withK zone ts p ∧ ∀ e∈v,e.1=⟨e.2.Player,e.2.Item,e.2.Day,0,0⟩:=by
  rw [mi_ix he ⟨rfl,rfl⟩ e2,e1]
  unfold withK
  cases hi:ixT (kT p zone) ts with
  | none =>
   refine⟨_,rfl,by rw [List.map_append,e1]; rfl,fun e he' => ?_⟩
   rcases List.mem_append.1 he' with he' | he'
   ·exact e2 e he'
   ·rw [List.mem_singleton.1 he']; rfl
  | some j=>exact⟨es,rfl,e1,e2⟩
 obtain ⟨v,v1,v2,v3⟩:=hv
 rw [v1,Option.bind_some,mi_ix he ⟨rfl,rfl⟩ v3,v2,i1,Option.bind_some]
 have hvl:v.length=(withK zone ts p).length:=by rw [← v2,List.length_map]
 obtain ⟨e,g1,g2⟩:∃ e,v[i]? = some e∧e.2=t:=by
  have:=i2
  rw [← v2,List.getElem?_map,Option.map_eq_some_iff]at this
  exact this
 have g3:=v3 e (List.mem_of_getElem? g1)
 simp only [g1,Option.bind_some]
 have hset:∀ y:Tally,y.Player=e.2.Player→y.Item=e.2.Item→y.Day=e.2.Day→ES (v.set i (e.1,y)) ((withK zone ts p).set i y):=fun y y1 y2 y3=>by
  refine⟨by rw [List.map_set,v2],fun x hx => ?_⟩
  rcases List.mem_or_eq_of_mem_set hx with hx | hx
  ·exact v3 x hx
  ·rw [hx]; simp only [y1,y2,y3]; exact g3
 obtain ⟨q1,q2⟩:=hset ⟨e.2.Player,e.2.Item,e.2.Day,w64 (e.2.Many + 1),e.2.Long⟩ rfl rfl rfl
 have hix:mIdx eq (kT p zone) (v.set i (e.1,(⟨e.2.Player,e.2.Item,e.2.Day,w64 (e.2.Many + 1),e.2.Long⟩:Tally)))=some i:=by
  rw [mi_ix he ⟨rfl,rfl⟩ q2,q1,ixT_set (i:=i) (x:=t) (by rw [g2]; rfl) i2]; exact i1
 rw [hix,Option.bind_some]
 simp only [set_at (show i < v.length by omega),Option.bind_some,List.set_set]
 refine⟨_,rfl,?_⟩
 rw [stepT_eq i1 i2]
 have:=hset (upT t p) (by rw [g2]; rfl) (by rw [g2]; rfl) (by rw [g2]; rfl)
 have hy:(⟨e.2.Player,e.2.Item,e.2.Day,w64 (e.2.Many + 1),w64 (e.2.Long + p.Long)⟩:Tally)=upT t p:=by
  rw [g2,w64_id (n:=t.Many + 1) (by omega),w64_id (n:=t.Long + p.Long) (by omega)]; rfl
 rw [hy]; exact this
def ltT (a b:Tally):Prop:=lt a.Player b.Player∨a.Player=b.Player∧(lt a.Item b.Item∨a.Item=b.Item∧a.Day < b.Day)
def cT (a b:Tally):Int:=or0 (cmpB a.Player b.Player) (or0 (cmpB a.Item b.Item) (cmpI a.Day b.Day))
theorem lt_ne {a b:ByteArray} (h:lt a b):a≠b:=fun k=>by rw [k]at h; exact lt_irr _ h
theorem cmpI_neg {a b:Int}:cmpI a b < 0↔a < b:=by 
 unfold cmpI
 split
 ·omega
 ·split <;> omega
theorem cT_neg {a b:Tally}:cT a b < 0↔ltT a b:=by
 unfold cT or0 ltT
 rcases cmpB_spec a.Player b.Player with⟨h,e⟩ | ⟨h,e⟩ | ⟨h,e⟩
 ·rw [e]; simp [h]
 ·rw [e,h]
  have hn:¬ lt b.Player b.Player:=lt_irr _
  rcases cmpB_spec a.Item b.Item with⟨h2,e2⟩ | ⟨h2,e2⟩ | ⟨h2,e2⟩
  ·rw [e2]; simp [h2]
  ·rw [e2,h2]
   have hn2:¬ lt b.Item b.Item:=lt_irr _
   simp [hn,hn2,cmpI_neg]
  ·have hn2:¬ lt a.Item b.Item:=fun k=>lt_irr _ (lt_trans h2 k)
   have hn3:a.Item≠b.Item:=fun k=>lt_ne h2 k.symm
   rw [e2]; simp [hn,hn2,hn3]
 ·have hn:¬ lt a.Player b.Player:=fun k=>lt_irr _ (lt_trans h k)
  have hn2:a.Player≠b.Player:=fun k=>lt_ne h k.symm
  rw [e]; simp [hn,hn2]
theorem ltT_asymm {a b:Tally} (h:ltT a b) (k:ltT b a):False:=by
 rcases h with h | ⟨h1,h⟩
 ·rcases k with k | ⟨k1,k⟩
  ·exact lt_irr _ (lt_trans h k)
  ·exact lt_ne h k1.symm
 ·rcases k with k | ⟨k1,k⟩
  ·exact lt_ne k h1.symm
  ·rcases h with h | ⟨h2,h⟩
   ·rcases k with k | ⟨k2,k⟩
    ·exact lt_irr _ (lt_trans h k)
    ·exact lt_ne h k2.symm
   ·rcases k with k | ⟨k2,k⟩
    ·exact lt_ne k h2.symm
    ·omega
theorem ltT_cut {a b d:Tally} (h:ltT a d):ltT a b∨ltT b d:=by
 rcases lt_tri a.Player b.Player with p | p | p
 ·exact .inl (.inl p)
 ·rcases h with h | ⟨h1,h⟩
  ·exact .inr (.inl (by rw [← p]; exact h))
  ·rcases lt_tri a.Item b.Item with q | q | q
   ·exact .inl (.inr ⟨p,.inl q⟩)
   ·rcases h with h | ⟨h2,h⟩
    ·exact .inr (.inr ⟨p.symm.trans h1,.inl (by rw [← q]; exact h)⟩)
    ·rcases Int.lt_or_le a.Day b.Day with r | r
     ·exact .inl (.inr ⟨p,.inr ⟨q,r⟩⟩)
     ·exact .inr (.inr ⟨p.symm.trans h1,.inr ⟨q.symm.trans h2,by omega⟩⟩)
   ·rcases h with h | ⟨h2,h⟩
    ·exact .inr (.inr ⟨p.symm.trans h1,.inl (lt_trans q h)⟩)
    ·exact .inr (.inr ⟨p.symm.trans h1,.inl (by rw [← h2]; exact q)⟩)
 ·rcases h with h | ⟨h1,h⟩
  ·exact .inr (.inl (lt_trans p h))
  ·exact .inr (.inl (by rw [← h1]; exact p))
theorem ltT_tri {a b:Tally} (h:sameK a b=false):ltT a b∨ltT b a:=by
 have hne:¬ (b.Player=a.Player∧b.Item=a.Item∧b.Day=a.Day):=fun k=>by
  have:=sameK_iff.2 k; rw [h]at this; cases this
 rcases lt_tri a.Player b.Player with p | p | p
 ·exact .inl (.inl p)
 ·rcases lt_tri a.Item b.Item with q | q | q
  ·exact .inl (.inr ⟨p,.inl q⟩)
  ·rcases Int.lt_trichotomy a.Day b.Day with r | r | r
   ·exact .inl (.inr ⟨p,.inr ⟨q,r⟩⟩)
   ·exact absurd ⟨p.symm,q.symm,r.symm⟩ hne
   ·exact .inr (.inr ⟨p.symm,.inr ⟨q.symm,r⟩⟩)
  ·exact .inr (.inr ⟨p.symm,.inl q⟩)
 ·exact .inr (.inl p)
theorem or3_eq (a b c:Int):cmp_Or_int [a,b,c]=some (or0 a (or0 b c)):=by
 unfold cmp_Or_int or0
 rw [forL_eq (by simp)]
 have step:∀ k (x:Int),cmp_Or_int_L1 k x ()=some (bif x != 0 then .ret x else .go ()):=fun k x=>by
  unfold cmp_Or_int_L1; cases x != 0 <;> rfl
 cases ha:a == 0 with
 | false =>
  have h1:(a != 0)=true:=by rw [bne,ha]; rfl
  simp only [forR,step,h1,cond_true,Option.bind_some,cond_false]; rfl
 | true =>
  have h1:(a != 0)=false:=by rw [bne,ha]; rfl
  cases hb:b == 0 with
  | false =>
   have h2:(b != 0)=true:=by rw [bne,hb]; rfl
   simp only [forR,step,h1,h2,cond_true,cond_false,Option.bind_some]; rfl
  | true =>
   have h2:(b != 0)=false:=by rw [bne,hb]; rfl
   cases hc:c == 0 with
   | false =>
    have h3:(c != 0)=true:=by rw [bne,hc]; rfl
    simp only [forR,step,h1,h2,h3,cond_true,cond_false,Option.bind_some]; rfl
   | true =>
    have h3:(c != 0)=false:=by rw [bne,hc]; rfl
    have:c=0:=eq_of_beq hc
    subst this
    simp only [forR,step,h1,h2,h3,cond_true,cond_false,Option.bind_some]; rfl
theorem cmpC_eq (a b:Tally):proof_Counts_1 a b=some (cT a b):=by
 unfold proof_Counts_1 cT
 simp only [compare_eq,cmpInt_eq,or3_eq,Option.bind_some]
theorem cmpStr_eq (x y:ByteArray):cmp_Compare_string x y=some (cmpB x y):=by
 have hn:∀ z,cmp_isNaN_string z=some false:=fun z=>by
  unfold cmp_isNaN_string
  rw [sNe_dec,decide_eq_true rfl]; rfl
 unfold cmp_Compare_string
 rw [hn,hn]
 simp only [Option.bind_some,cond_false]
 rcases cmpB_spec x y with⟨h,e⟩ | ⟨h,e⟩ | ⟨h,e⟩
 ·rw [e,(sLt_iff _ _).2 h]; rfl
 ·subst h
  have:sLt x x=false:=by rw [← Bool.not_eq_true,sLt_iff]; exact lt_irr _
  have h2:sGt x x=false:=by rw [← Bool.not_eq_true,sGt_iff]; exact lt_irr _
  rw [e,this,h2]; rfl
 ·have:sLt x y=false:=by rw [← Bool.not_eq_true,sLt_iff]; exact fun k=>lt_irr _ (lt_trans h k)
  rw [e,this,(sGt_iff _ _).2 h]; rfl
theorem cmp2_eq (a b c d:ByteArray):slices_Compare_string_string [a,b] [c,d]=some (or0 (cmpB a c) (cmpB b d)):=by
 unfold slices_Compare_string_string or0
 rw [forL_eq (by simp)]
 have s0:slices_Compare_string_string_L1 [c,d] 0 a ()=some (bif cmpB a c != 0 then .ret (cmpB a c)else .go ()):=by
  unfold slices_Compare_string_string_L1
  have:idx [c,d] ((0:Nat):Int)=some c:=rfl
  rw [this,Option.bind_some,cmpStr_eq,Option.bind_some,decide_eq_false (by simp),cond_false]
  cases cmpB a c != 0 <;> rfl
 have s1:slices_Compare_string_string_L1 [c,d] (0 + 1) b ()=some (bif cmpB b d != 0 then .ret (cmpB b d)else .go ()):=by
  unfold slices_Compare_string_string_L1
  have:idx [c,d] ((0 + 1:Nat):Int)=some d:=rfl
  rw [this,Option.bind_some,cmpStr_eq,Option.bind_some,decide_eq_false (by simp),cond_false]
  cases cmpB b d != 0 <;> rfl
 cases ha:cmpB a c == 0 with
 | false =>
  have h1:(cmpB a c != 0)=true:=by rw [bne,ha]; rfl
  simp only [forR,s0,h1,cond_true,Option.bind_some,cond_false]; rfl
 | true =>
  have h1:(cmpB a c != 0)=false:=by rw [bne,ha]; rfl
  cases hb:cmpB b d == 0 with
  | false =>
   have h2:(cmpB b d != 0)=true:=by rw [bne,hb]; rfl
   simp only [forR,s0,s1,h1,h2,cond_true,cond_false,Option.bind_some]; rfl
  | true =>
   have h2:(cmpB b d != 0)=false:=by rw [bne,hb]; rfl
   have h3:cmpB b d=0:=eq_of_beq hb
   simp only [forR,s0,s1,h1,h2,cond_true,cond_false,Option.bind_some,h3]; rfl
theorem cmpR_eq {a b:Tally} (ha : -1000000≤a.Day∧a.Day≤1000000) (hb : -1000000≤b.Day∧b.Day≤1000000):ref_CountsOf_2 a b=some (cT a b):=by
 unfold ref_CountsOf_2 cT
 rw [cmp2_eq,Option.bind_some,w64_id (n:=a.Day - b.Day) (by omega),sign_eq]
 have:cmpI (a.Day - b.Day) 0=cmpI a.Day b.Day:=by unfold cmpI; split <;> split <;> first | rfl | omega | (split <;> first | rfl | omega | (split <;> first | rfl | omega)) | skip
 rw [this]
 unfold or0 bne
 cases h1:cmpB a.Player b.Player == 0 with
 | false=>simp only [cond_false,h1,Bool.not_false,cond_true]
 | true =>
  simp only [cond_true]
  cases h2:cmpB a.Item b.Item == 0 <;> rfl
theorem sorted_of {ts r:List Tally} (hd:ts.Pairwise (fun a b=>sameK a b=false)) (hp:r.Perm ts) (hs:r.Pairwise (fun a b => ¬ cT b a < 0)):r.Pairwise ltT:=by
 have h1:r.Pairwise (fun a b=>sameK a b=false):=(hp.pairwise_iff (fun {a b} h=>by rw [sameK_symm]; exact h)).2 hd
 refine (List.Pairwise.and h1 hs).imp (fun {a b} ⟨h,k⟩ => ?_)
 rw [cT_neg]at k
 rcases ltT_tri h with q | q
 ·exact q
 ·exact absurd q k
theorem sorts_one {ts:List Tally} {n:Nat} (h:TT n ts) (hl:ts.length≤12):∃ r,r.Perm ts∧slices_SortFunc_api_Tally_api_Tally_v2 ts=some r ∧ ∀ out,out.Perm ts→slices_SortFunc_api_Tally_api_Tally_v1 out=some r:=by
 have has:∀ a b,cT a b < 0 → ¬ cT b a < 0:=fun a b h k=>ltT_asymm (cT_neg.1 h) (cT_neg.1 k)
 have htr:∀ a b d,¬ cT a b < 0 → ¬ cT b d < 0 → ¬ cT a d < 0:=fun a b d h k q=>by
  rcases ltT_cut (b:=b) (cT_neg.1 q)with e | e
  ·exact h (cT_neg.2 e)
  ·exact k (cT_neg.2 e)
 obtain ⟨r,r1,r2,r3⟩:=sort12 (cmp:=ref_CountsOf_2) (S:=slices_SortFunc_api_Tally_api_Tally_v2) cT (fun _=>rfl) (xs:=ts) hl (fun a ha b hb=>cmpR_eq (h.day a ha) (h.day b hb)) has htr
 refine⟨r,r2,r1,fun out ho => ?_⟩
 obtain ⟨r',q1,q2,q3⟩:=sort12 (cmp:=proof_Counts_1) (S:=slices_SortFunc_api_Tally_api_Tally_v1) cT (fun _=>rfl) (xs:=out) (by rw [ho.length_eq]; exact hl) (fun a _ b _=>cmpC_eq a b) has htr
 rw [q1]
 congr 1
 exact perm_uniq (R:=ltT) (fun a b h k=>ltT_asymm h k) ((q2.trans ho).trans r2.symm) (sorted_of h.dif (q2.trans ho) q3) (sorted_of h.dif r2 r3)
theorem told {es:List (Tally×Tally)} (hl:es.length≤1000):∀ (l:List (Nat×Tally)) (out:List Tally),out.length + l.length≤2000→(∀ e∈l,e.1 < es.length)→forP (fun x s=>proof_Counts_L2 es x s) l out=some (.go (out++l.filterMap fun e=>(es[e.1]?).map (·.2)))
 | [],out,_,_=>by simp [forP]
 | e::l,out,h,hm=>by
  have he:=hm e (by simp)
  simp only [List.length_cons]at h
  rw [forP]
  have:proof_Counts_L2 es e out=some (.go (out ++ [es[e.1].2])):=by
   unfold proof_Counts_L2
   rw [List.getElem?_eq_getElem he,Option.bind_some,appL_ok _ _ (by simp; omega)]; rfl
  rw [this,Option.bind_some]
  show forP (fun x s=>proof_Counts_L2 es x s) l (out ++ [es[e.1].2])=_
  rw [told hl l _ (by simp; omega) (fun x hx=>hm x (by simp [hx])),List.filterMap_cons,List.getElem?_eq_getElem he]
  simp
theorem filterMap_all {α β:Type} {f:α→Option β} {g:α→β}:∀ {l:List α},(∀ e∈l,f e=some (g e))→l.filterMap f=l.map g
 | [],_=>rfl
 | e::l,h=>by
  rw [List.filterMap_cons,h e (by simp),List.map_cons,filterMap_all (fun x hx=>h x (List.mem_cons_of_mem _ hx))]
theorem counts_eq {l:List Play} (h:VP l) (hl:l.length≤12) {zone:Int} (hz : -1440≤zone∧zone≤1440) (hv:playsV l=0):∃ r,proof_Counts l zone=some (r,0)∧ref_CountsOf l zone=some r∧r.Perm (foldT zone l):=by
 have hT:=foldT_tt hz l h.at_ h.lo
 have hlen:=hT.len
 obtain ⟨r,r1,r2,r3⟩:=sorts_one hT (by omega)
 have htake:∀ (k:Nat) (x:Play),l[k]? = some x→l.take (k + 1)=l.take k ++ [x]:=fun k x hx=>by rw [List.take_add_one,hx]; rfl
 have hpre:∀ k:Nat,TT (l.take k).length (foldT zone (l.take k)):=fun k=>foldT_tt hz _ (fun x hx=>h.at_ x (List.mem_of_mem_take hx)) (fun x hx=>h.lo x (List.mem_of_mem_take hx))
 have hkl:∀ k:Nat,(l.take k).length≤12:=fun k=>by rw [List.length_take]; omega
 refine⟨r,?_,?_,r1⟩
 ·unfold proof_Counts
  rw [checkPlays_eq h.good (by omega),hv,Option.bind_some]
  simp only [bne_self_eq_false,cond_false,outside_eq,outB_in hz,Option.bind_some]
  obtain ⟨es,e1,e2⟩:=forL_at (body:=fun k x s=>proof_Counts_L1 zone k x s) (fun k s=>ES s (foldT zone (l.take k))) (xs:=l) (s:=([]:List (Tally×Tally))) (by omega) (fun k x s hx hI=>by
   have hm:=List.mem_of_getElem? hx
   have hkk:=hkl k
   obtain ⟨es',q1,q2⟩:=code_step hz (n:=(l.take k).length) (by omega) hI (hpre k) (h.at_ x hm) (h.lo x hm) k
   exact⟨es',q1,by rw [htake k x hx,foldT_snoc]; exact q2⟩) ⟨rfl,fun e he=>by cases he⟩
  rw [List.take_length]at e2
  rw [e1]
  simp only [Option.bind_some,thenC]
  have hel:es.length=(foldT zone l).length:=by rw [← e2.1,List.length_map]
  refine overP_of (fun l' hp => ?_)
  have hmem:∀ e∈l',e.1 < es.length:=fun e he=>by
   have:=hp.mem_iff.1 he
   unfold pmL at this
   obtain ⟨i,hi,rfl⟩:=List.getElem_of_mem this
   simp only [List.length_mapIdx]at hi
   simp only [List.getElem_mapIdx]; exact hi
  have hll:l'.length=es.length:=by rw [hp.length_eq]; unfold pmL; simp
  rw [told (by omega) l' [] (by simp only [List.length_nil]; omega) hmem]
  simp only [Option.bind_some,thenC,List.nil_append]
  have hperm:(l'.filterMap fun e=>(es[e.1]?).map (·.2)).Perm (foldT zone l):=by
   refine (hp.filterMap _).trans (List.Perm.of_eq ?_)
   rw [← e2.1]
   have hf:(pmL es).filterMap (fun e=>(es[e.1]?).map (·.2))=(pmL es).map (fun e=>((es[e.1]?).map (·.2)).getD ⟨⟨#[]⟩,⟨#[]⟩,0,0,0⟩):=by
    refine filterMap_all (fun e he => ?_)
    unfold pmL at he
    obtain ⟨i,hi,rfl⟩:=List.getElem_of_mem he
    simp only [List.length_mapIdx]at hi
    simp only [List.getElem_mapIdx,List.getElem?_eq_getElem hi,Option.map_some,Option.getD_some]
   rw [hf]
   unfold pmL
   refine List.ext_getElem (by simp) (fun i h1 h2 => ?_)
   simp only [List.length_map,List.length_mapIdx]at h1
   simp only [List.getElem_map,List.getElem_mapIdx,List.getElem?_eq_getElem h1,Option.map_some,Option.getD_some]
  rw [r3 _ hperm,Option.bind_some]
  have:sameL r (l'.filterMap fun e=>(es[e.1]?).map (·.2))=some ():=by unfold sameL; rw [if_pos (by rw [r1.length_eq,hperm.length_eq])]
  rw [this]; rfl
 ·unfold ref_CountsOf
  obtain ⟨ts,e1,e2⟩:=forL_at (body:=fun k x s=>ref_CountsOf_L1 zone k x s) (fun k s=>s=foldT zone (l.take k)) (xs:=l) (s:=([]:List Tally)) (by omega) (fun k x s hx hI=>by
   subst hI
   have hm:=List.mem_of_getElem? hx
   have hkk:=hkl k
   exact⟨_,ref_step hz (n:=(l.take k).length) (by omega) (hpre k) (h.at_ x hm) (h.lo x hm) k,by rw [htake k x hx,foldT_snoc]⟩) rfl
  rw [List.take_length]at e2
  subst e2
  rw [e1]
  simp only [Option.bind_some,thenC,r2]
  have:sameL r (foldT zone l)=some ():=by unfold sameL; rw [if_pos r1.length_eq]
  rw [this]; rfl
end Go.Proofs.Ythcdokkcamcnmab.Law

open Go Go.Eng
namespace Go.Proofs.Ythcdokkcamcnmab.Law
set_option linter.unusedVariables false
set_option linter.unusedSimpArgs false
theorem minI_eq (a b:Int):minI a b=min a b:=by unfold minI; split <;> omega
theorem maxI_eq (a b:Int):maxI a b=max a b:=by unfold maxI; split <;> omega
def keepW (x:Window):Bool:=decide (x.From < x.To)
def cutW (p:Play) (x:Window):List Window := [⟨x.From,min x.To p.At⟩,⟨max x.From (p.At + p.Long),x.To⟩]
def lessW (pl:ByteArray) (out:List Window) (p:Play):List Window:=if p.Player=pl then (out.flatMap (cutW p)).filter keepW else out
theorem del1 {xs:List Window} (hl:xs.length≤1000000):slices_DeleteFunc_api_Window_api_Window_v1 xs=some (xs.filter keepW):=by
 have e:slices_DeleteFunc_api_Window_api_Window_v1 xs=delG (⟨0,0⟩:Window) (fun e=>ref_IdleOf_1 e) xs:=rfl
 rw [e,delG_eq (f:=fun e=>ref_IdleOf_1 e) (q:=fun x=>decide (x.From≥x.To)) (fun x _=>rfl) (by omega)]
 congr 2
 funext x; unfold keepW
 rw [Bool.eq_iff_iff]; simp
theorem del3 {xs:List Window} (hl:xs.length≤1000000):slices_DeleteFunc_api_Window_api_Window_v3 xs=some (xs.filter keepW):=by
 have e:slices_DeleteFunc_api_Window_api_Window_v3 xs=delG (⟨0,0⟩:Window) (fun e=>ref_IdleOf_2 e) xs:=rfl
 rw [e,delG_eq (f:=fun e=>ref_IdleOf_2 e) (q:=fun x=>decide (x.From≥x.To)) (fun x _=>rfl) (by omega)]
 congr 2
 funext x; unfold keepW
 rw [Bool.eq_iff_iff]; simp
theorem delN2:slices_DeleteFunc_api_Window_api_Window_v2=some ():=by
 have:slices_IndexFunc_api_Window_api_Window ([]:List Window) (fun x0=>ref_IdleOf_1 x0)=some (-1):=by
  unfold slices_IndexFunc_api_Window_api_Window
  rw [forL_eq (by simp)]; rfl
 unfold slices_DeleteFunc_api_Window_api_Window_v2
 rw [this]; rfl
theorem delN4:slices_DeleteFunc_api_Window_api_Window_v4=some ():=by
 have:slices_IndexFunc_api_Window_api_Window ([]:List Window) (fun x0=>ref_IdleOf_2 x0)=some (-1):=by
  unfold slices_IndexFunc_api_Window_api_Window
  rw [forL_eq (by simp)]; rfl
 unfold slices_DeleteFunc_api_Window_api_Window_v4
 rw [this]; rfl
theorem leL_ok {α β:Type} {xs:List α} {ys:List β} (h:xs.length≤ys.length):leL xs ys=some ():=by unfold leL; rw [if_pos h]
theorem cuts_run {p:Play} (hp:0≤p.At∧p.At≤345686399999) (hl:1≤p.Long∧p.Long≤86400000) {out:List Window} (ho:out.length≤1000):forL out ([]:List Window) (fun k x s=>ref_IdleOf_L1 p k x s)=some (.go (out.flatMap (cutW p))):=by
 obtain ⟨s,e,hs⟩:=forL_at (body:=fun k x s=>ref_IdleOf_L1 p k x s) (fun k s=>s=(out.take k).flatMap (cutW p)∧s.length=2 * (out.take k).length) (xs:=out) (s:=([]:List Window)) (by omega) (fun k x s hx ⟨hs,hn⟩=>by
  subst hs
  have et:out.take (k + 1)=out.take k ++ [x]:=by rw [List.take_add_one,hx]; rfl
  have hkl:(out.take k).length≤1000:=by rw [List.length_take]; omega
  unfold ref_IdleOf_L1
  rw [appL_ok _ _ (by simp only [List.length_cons,List.length_nil]; omega),Option.bind_some,minI_eq,maxI_eq,w64_id (n:=p.At + p.Long) (by omega)]
  refine⟨_,rfl,?_,?_⟩
  ·rw [et,List.flatMap_append]; simp [cutW]
  ·rw [et,List.length_append,hn]; simp; omega) ⟨rfl,rfl⟩
 rw [List.take_length]at hs
 rw [e,hs.1]
theorem ref_round {p:Play} (hp:0≤p.At∧p.At≤345686399999) (hl:1≤p.Long∧p.Long≤86400000) (pl:ByteArray) {out:List Window} (ho:out.length≤1000) (k:Nat):ref_IdleOf_L2 pl k p out=some (.go (lessW pl out p)):=by
 unfold ref_IdleOf_L2 lessW
 rw [sNe_dec]
 by_cases h:p.Player=pl
 ·rw [decide_eq_true h,if_pos h,Bool.not_true,cond_false,cuts_run hp hl ho]
  have hlen:(out.flatMap (cutW p)).length≤2000:=by
   have:∀ l:List Window,(l.flatMap (cutW p)).length=2 * l.length:=fun l=>by
    induction l with
    | nil=>rfl
    | cons x l ih=>rw [List.flatMap_cons,List.length_append,ih]; simp [cutW]; omega
   rw [this]; omega
  simp only [Option.bind_some,thenC,del1 (show (out.flatMap (cutW p)).length≤1000000 by omega),leL_ok (List.length_filter_le _ _),delN2]
 ·rw [decide_eq_false h,if_neg h]; rfl
structure IW (w:Window) (pl:ByteArray) (done:List Play) (E:List Window) (at_:Int) (out:List Window):Prop where
 out_:out=E++(if done.all (fun p => !decide (p.Player=pl))=true then [⟨at_,w.To⟩]else if at_ < w.To then [⟨at_,w.To⟩]else [])
 fresh:done.all (fun p => !decide (p.Player=pl))=true→E = []∧at_=w.From
 emp:∀ x∈E,x.From < x.To ∧ ∃ p∈done,p.Player=pl∧x.To≤p.At
 len:E.length≤done.length
 at1:0≤at_∧at_≤1000000000000
theorem cut_old {p:Play} (hl:1≤p.Long) {x:Window} (h1:x.From < x.To) (h2:x.To≤p.At):(cutW p x).filter keepW = [x]:=by
 have a:keepW ⟨x.From,min x.To p.At⟩=true:=by unfold keepW; rw [decide_eq_true]; show x.From < min x.To p.At; omega
 have b:keepW ⟨max x.From (p.At + p.Long),x.To⟩=false:=by unfold keepW; rw [decide_eq_false]; show ¬ max x.From (p.At + p.Long) < x.To; omega
 unfold cutW
 rw [List.filter_cons,a,List.filter_cons,b]
 simp only [if_true,Bool.false_eq_true,if_false,List.filter_nil]
 rw [Int.min_eq_left h2]
theorem cut_olds {p:Play} (hl:1≤p.Long):∀ {E:List Window},(∀ x∈E,x.From < x.To∧x.To≤p.At)→(E.flatMap (cutW p)).filter keepW=E
 | [],_=>rfl
 | x::E,h=>by
  obtain ⟨h1,h2⟩:=h x (by simp)
  rw [List.flatMap_cons,List.filter_append,cut_old hl h1 h2,cut_olds hl (fun y hy=>h y (List.mem_cons_of_mem _ hy))]; rfl
theorem filter1 (x:Window) : [x].filter keepW=if x.From < x.To then [x]else []:=by
 unfold keepW
 by_cases h:x.From < x.To <;> simp [h]
theorem code_round {w:Window} (hw:0≤w.From∧w.From≤w.To∧w.To≤345686400000) {pl:ByteArray} {done:List Play} {E:List Window} {at_:Int} {out:List Window} (h:IW w pl done E at_ out) (hd:done.length≤100) {p:Play} (hp:0≤p.At∧p.At≤345686399999) (hl:1≤p.Long∧p.Long≤86400000)
  (hb:∀ q∈done,q.Player=pl→p.Player=pl→q.At < p.At) (k:Nat):∃ E' at',proof_Idle_L1 pl w k p (E,at_)=some (.go (E',at'))∧IW w pl (done ++ [p]) E' at' (lessW pl out p):=by
 obtain ⟨h1,h2,h3,h4,h5⟩:=h
 unfold proof_Idle_L1 lessW
 simp only []
 rw [sNe_dec]
 by_cases hpp:p.Player=pl
 ·rw [decide_eq_true hpp,if_pos hpp,Bool.not_true,cond_false,Option.bind_some]
  have hall:(done ++ [p]).all (fun p => !decide (p.Player=pl))=false:=by
   rw [List.all_append]; simp [hpp]
  have hold:(E.flatMap (cutW p)).filter keepW=E:=cut_olds hl.1 (fun x hx=>by
   obtain ⟨a,q,q1,q2,q3⟩:=h3 x hx
   have:=hb q q1 q2 hpp
   exact⟨a,by omega⟩)
  have hem:∀ x∈E,x.From < x.To ∧ ∃ q∈done ++ [p],q.Player=pl∧x.To≤q.At:=fun x hx=>by
   obtain ⟨a,q,q1,q2,q3⟩:=h3 x hx
   exact⟨a,q,by simp [q1],q2,q3⟩
  have hlast:((cutW p ⟨at_,w.To⟩).filter keepW)=(if at_ < min w.To p.At then [⟨at_,min w.To p.At⟩]else [])++(if max at_ (p.At + p.Long) < w.To then [⟨max at_ (p.At + p.Long),w.To⟩]else []):=by
   unfold cutW
   rw [show ∀ a b:Window,[a,b] = [a] ++ [b] from fun _ _=>rfl,List.filter_append,filter1,filter1]
  by_cases hend:at_≥w.To
  ·rw [decide_eq_true hend,cond_true]
   refine⟨E,at_,rfl,?_,fun hc => ?_,hem,by simp; omega,h5⟩
   ·rw [hall,h1,List.flatMap_append,List.filter_append,hold]
    congr 1
    have:∀ l:List Window,(∀ x∈l,x=⟨at_,w.To⟩)→(l.flatMap (cutW p)).filter keepW = []:=fun l hl'=>by
     induction l with
     | nil=>rfl
     | cons x l ih =>
      rw [List.flatMap_cons,List.filter_append,hl' x (by simp),hlast,if_neg (by omega),if_neg (by omega),ih (fun y hy=>hl' y (List.mem_cons_of_mem _ hy))]; rfl
    rw [this _ (fun x hx=>by
     split at hx
     ·simpa using hx
     ·split at hx
      ·simpa using hx
      ·cases hx)]
    simp; omega
   ·rw [hall]at hc; cases hc
  ·rw [decide_eq_false hend,cond_false]
   have hout:out=E ++ [⟨at_,w.To⟩]:=by rw [h1]; split; rfl; rw [if_pos (by omega)]
   have hlen2:lessW pl out p=lessW pl out p:=rfl
   rw [minI_eq,maxI_eq,w64_id (n:=p.At + p.Long) (by omega)]
   by_cases hm:min p.At w.To > at_
   ·rw [decide_eq_true hm,cond_true,appL_ok _ _ (by simp; omega)]
    refine⟨_,_,rfl,?_,fun hc => ?_,fun x hx => ?_,by simp; omega,by omega⟩
    ·rw [hall,hout,List.flatMap_append,List.filter_append,hold,List.flatMap_cons,List.flatMap_nil,List.append_nil,hlast,if_pos (by omega),Int.min_comm w.To p.At,List.append_assoc]; rfl
    ·rw [hall]at hc; cases hc
    ·rcases List.mem_append.1 hx with hx | hx
     ·exact hem x hx
     ·rw [List.mem_singleton.1 hx]
      exact⟨hm,p,by simp,hpp,by show min p.At w.To≤p.At; omega⟩
   ·rw [decide_eq_false hm,cond_false]
    refine⟨_,_,rfl,?_,fun hc => ?_,hem,by simp; omega,by omega⟩
    ·rw [hall,hout,List.flatMap_append,List.filter_append,hold,List.flatMap_cons,List.flatMap_nil,List.append_nil,hlast,if_neg (by omega)]; rfl
    ·rw [hall]at hc; cases hc
 ·rw [decide_eq_false hpp,if_neg hpp]
  have hall:(done ++ [p]).all (fun p => !decide (p.Player=pl))=done.all (fun p => !decide (p.Player=pl)):=by
   rw [List.all_append]; simp [hpp]
  refine⟨E,at_,rfl,by rw [hall]; exact h1,by rw [hall]; exact h2,fun x hx => ?_,by simp; omega,h5⟩
  obtain ⟨a,q,q1,q2,q3⟩:=h3 x hx
  exact⟨a,q,by simp [q1],q2,q3⟩
theorem lessW_len {w:Window} {pl:ByteArray} {done:List Play} {E:List Window} {at_:Int} {out:List Window} (h:IW w pl done E at_ out):out.length≤done.length + 1:=by
 have:=h.len
 rw [h.out_,List.length_append]
 split
 ·simp; omega
 ·split <;> simp <;> omega
theorem idle_eq {l:List Play} (h:VP l) (hv:playsV l=0) (hl:l.length≤100) {pl:ByteArray} (hk:keyB pl=true) (hs:Short pl) {w:Window} (hw:0≤w.From∧w.From≤w.To∧w.To≤345686400000) :
  ∃ r,proof_Idle l pl w=some (r,0)∧ref_IdleOf l pl w=some r∧r.length≤200:=by
 have htake:∀ (k:Nat) (x:Play),l[k]? = some x→l.take (k + 1)=l.take k ++ [x]:=fun k x hx=>by rw [List.take_add_one,hx]; rfl
 have hkl:∀ k:Nat,(l.take k).length≤100:=fun k=>by rw [List.length_take]; omega
 have h0:IW w pl [] [] w.From [w]:=⟨rfl,fun _=>⟨rfl,rfl⟩,fun x hx=>(by cases hx),by simp,by omega⟩
 have hbef:∀ (k:Nat) (x:Play),l[k]? = some x → ∀ q∈l.take k,q.Player=pl→x.Player=pl→q.At < x.At:=fun k x hx q hq q1 q2=>by
  obtain ⟨i,hi,rfl⟩:=List.getElem_of_mem hq
  rw [List.length_take]at hi
  rw [List.getElem_take]at q1 ⊢
  have:=pair_prev h.rise (List.getElem?_eq_getElem (show i < l.length by omega)) hx (by omega)
  rcases this with h | ⟨_,h⟩
  ·rw [q1,q2]at h; exact absurd h (lt_irr _)
  ·exact h
 let outs:Nat→List Window:=fun k=>(l.take k).foldl (lessW pl) [w]
 have houts:∀ (k:Nat) (x:Play),l[k]? = some x→outs (k + 1)=lessW pl (outs k) x:=fun k x hx=>by
  show (l.take (k + 1)).foldl (lessW pl) [w]=_
  rw [htake k x hx,List.foldl_append]; rfl
 obtain ⟨⟨E,at_⟩,e1,e2⟩:=forL_at (body:=fun k x s=>proof_Idle_L1 pl w k x s) (fun k s=>IW w pl (l.take k) s.1 s.2 (outs k)) (xs:=l) (s:=(([]:List Window),w.From)) (by omega) (fun k x s hx hI=>by
  have hm:=List.mem_of_getElem? hx
  obtain ⟨E',at',q1,q2⟩:=code_round hw hI (hkl k) (h.at_ x hm) (h.lo x hm) (hbef k x hx) k
  exact⟨(E',at'),q1,by rw [htake k x hx,houts k x hx]; exact q2⟩) h0
 rw [List.take_length]at e2
 simp only at e2
 have hb:∀ k:Nat,k≤l.length → ∃ E at_,IW w pl (l.take k) E at_ (outs k):=by
  intro k
  induction k with
  | zero=>exact fun _=>⟨_,_,h0⟩
  | succ k ih =>
   intro hk'
   obtain ⟨E,a,hI⟩:=ih (by omega)
   have hx:l[k]? = some l[k]:=List.getElem?_eq_getElem (by omega)
   have hm:=List.mem_of_getElem? hx
   obtain ⟨E',at',_,q2⟩:=code_round hw hI (hkl k) (h.at_ _ hm) (h.lo _ hm) (hbef k _ hx) k
   exact⟨E',at',by rw [htake k _ hx,houts k _ hx]; exact q2⟩
 obtain ⟨o,f1,f2⟩:=forL_at (body:=fun k x s=>ref_IdleOf_L2 pl k x s) (fun k s=>s=outs k) (xs:=l) (s := [w]) (by omega) (fun k x s hx hs'=>by
  subst hs'
  have hm:=List.mem_of_getElem? hx
  have hlt:k < l.length:=(List.getElem?_eq_some_iff.1 hx).1
  obtain ⟨E,a,hI⟩:=hb k (by omega)
  have:=lessW_len hI
  have:=hkl k
  exact⟨_,ref_round (h.at_ x hm) (h.lo x hm) pl (by omega) k,(houts k x hx).symm⟩) rfl
 have hfin:outs l.length=l.foldl (lessW pl) [w]:=by show (l.take l.length).foldl _ _=_; rw [List.take_length]
 have e2':=e2
 obtain ⟨g1,g2,g3,g4,g5⟩:=e2
 have hE:E.filter keepW=E:=List.filter_eq_self.2 (fun x hx=>by unfold keepW; exact decide_eq_true (g3 x hx).1)
 have hres:o.filter keepW=E++(if at_ < w.To then [⟨at_,w.To⟩]else []):=by
  rw [f2,g1,List.filter_append,hE]
  congr 1
  split
  ·exact filter1 _
  ·split
   ·rw [filter1,if_pos ‹_›]
   ·rfl
 have ho:=lessW_len e2'
 refine⟨E++(if at_ < w.To then [⟨at_,w.To⟩]else []),?_,?_,?_⟩
 ·unfold proof_Idle
  unfold Short at hs
  rw [checkPlays_eq h.good (by omega),hv,Option.bind_some]
  simp only [bne_self_eq_false,cond_false,isKey_eq _ (show pl.size≤1000000000 by omega),hk,Bool.not_true,outside_eq,outB_in (show (0:Int)≤w.From∧w.From≤w.To from⟨hw.1,hw.2.1⟩),Option.bind_some]
  rw [decide_eq_false (show ¬ w.To > 345686400000 by omega),cond_false,e1]
  simp only [Option.bind_some,thenC]
  by_cases hc:at_ < w.To
  ·rw [decide_eq_true hc,cond_true,appL_ok _ _ (by simp; omega),if_pos hc]; rfl
  ·rw [decide_eq_false hc,cond_false,if_neg hc,List.append_nil]; rfl
 ·unfold ref_IdleOf
  rw [f1]
  have hol:o.length≤1000000:=by rw [f2]; omega
  have hle:leL (o.filter keepW) o=some ():=leL_ok (List.length_filter_le _ _)
  rw [hres]at hle
  simp only [Option.bind_some,thenC,del3 hol,hres,hle,delN4]
 ·rw [List.length_append]
  split <;> simp <;> omega
end Go.Proofs.Ythcdokkcamcnmab.Law

open Go Go.Eng
namespace Go.Proofs.Ythcdokkcamcnmab.Law
set_option linter.unusedVariables false
set_option linter.unusedSimpArgs false
theorem maxJ_eq (a b:Int):maxI a b=max a b:=by unfold maxI; split <;> omega
def distP (h w:Play):Int:=max (h.At - w.At) (w.At - h.At)
theorem apart_ok {h w:Play} (h1:0≤h.At∧h.At≤345686399999) (h2:0≤w.At∧w.At≤345686399999):proof_apart h.At w.At=some (distP h w):=by
 unfold proof_apart distP
 rw [maxJ_eq,w64_id (n:=h.At - w.At) (by omega),w64_id (n:=w.At - h.At) (by omega)]
theorem contains_eq (l:List Int) (v:Int) (hl:l.length≤1000):slices_Contains_int_int_v1 l v=some (decide (v∈l)):=by
 unfold slices_Contains_int_int_v1
 have e:slices_Index_int_int_v1 l v=ixF (fun x=>some (v == x)) l:=rfl
 rw [e]
 rcases ixF_eq (f:=fun x=>some (v == x)) (q:=fun x=>v == x) (xs:=l) (fun _ _=>rfl) (by omega)with⟨h1,h2⟩ | ⟨i,hi,h1,h2,h3⟩
 ·rw [h1,Option.bind_some]
  have:¬ v∈l:=fun hm=>by have:=h2 v hm; simp at this
  rw [decide_eq_false this]; rfl
 ·rw [h1,Option.bind_some]
  have:v∈l:=by
   have h4:v=l[i]:=eq_of_beq h2
   rw [h4]; exact List.getElem_mem hi
  rw [decide_eq_true this,decide_eq_true (by omega)]
def TkI (n:Nat) (tk:List Bool) (tl:List Int):Prop:=tk.length=n∧(∀ j:Nat,j < n→tk[j]? = some (decide ((j:Int)∈tl)))∧tl.length≤1000
theorem inner_eq {hv:List Play} (hh:∀ x∈hv,0≤x.At∧x.At≤345686399999) {w:Play} (hw:0≤w.At∧w.At≤345686399999) {tk:List Bool} {tl:List Int} (hT:TkI hv.length tk tl) (hl:hv.length≤1000) (out1 out2:List Match) (most:Int) :
  ∃ s:Int,forL hv (-1) (fun k x s=>proof_Compare_L2 (tk,out1) w most hv k x s)=some (.go s)∧forL hv (-1) (fun k x s=>ref_CompareOf_L1 w most (out2,tl) hv k x s)=some (.go s) ∧ -1≤s∧s < hv.length:=by
 obtain ⟨t1,t2,t3⟩:=hT
 have key:∀ (k:Nat) (x:Play) (s:Int),hv[k]? = some x→(-1≤s∧s < hv.length) → ∃ s',proof_Compare_L2 (tk,out1) w most hv k x s=some (.go s')∧ref_CompareOf_L1 w most (out2,tl) hv k x s=some (.go s')∧(-1≤s'∧s' < hv.length):=fun k x s hx hs=>by
  have hk:k < hv.length:=(List.getElem?_eq_some_iff.1 hx).1
  have hR:=hh x (List.mem_of_getElem? hx)
  have hd:maxI (w64 (w.At - x.At)) (w64 (x.At - w.At))=distP x w:=by
   unfold distP; rw [maxJ_eq,w64_id (n:=w.At - x.At) (by omega),w64_id (n:=x.At - w.At) (by omega),Int.max_comm]
  have c1:((bif (decide ((k:Int)∈tl))then some true else bif (sNe x.Player w.Player)then some true else bif (sNe x.Item w.Item)then some true else (proof_apart x.At w.At).bind fun r_58=>some (decide (r_58 > most))))=some (decide ((k:Int)∈tl) || (sNe x.Player w.Player || (sNe x.Item w.Item || decide (distP x w > most)))):=by
   rw [apart_ok hR hw]
   cases decide ((k:Int)∈tl) <;> cases sNe x.Player w.Player <;> cases sNe x.Item w.Item <;> rfl
  have c2:(bif (sNe x.Player w.Player)then some true else bif (sNe x.Item w.Item)then some true else bif (decide (distP x w > most))then some true else (slices_Contains_int_int_v1 tl (k:Int)).bind fun r_38=>some r_38)=some (decide ((k:Int)∈tl) || (sNe x.Player w.Player || (sNe x.Item w.Item || decide (distP x w > most)))):=by
   rw [contains_eq _ _ t3]
   cases decide ((k:Int)∈tl) <;> cases sNe x.Player w.Player <;> cases sNe x.Item w.Item <;> cases decide (distP x w > most) <;> rfl
  unfold proof_Compare_L2 ref_CompareOf_L1
  simp only [hd,c2,Option.bind_some]
  rw [inR_ok (xs:=tk) (i:=(k:Int)) (by omega) (by omega),Option.bind_some,show 0 + ((k:Int)).toNat=k by omega,t2 k hk,Option.bind_some,c1,Option.bind_some]
  generalize hL:(decide ((k:Int)∈tl) || (sNe x.Player w.Player || (sNe x.Item w.Item || decide (distP x w > most))))=L
  cases L with
  | true=>exact⟨s,rfl,rfl,hs⟩
  | false =>
   simp only [cond_false]
   by_cases hneg:s < 0
   ·rw [decide_eq_true hneg]
    exact⟨(k:Int),rfl,rfl,by omega⟩
   ·rw [decide_eq_false hneg]
    obtain ⟨j,rfl⟩:∃ j:Nat,s=j:=⟨s.toNat,by omega⟩
    have hj:hv[j]? = some (hv[j]'(by omega)):=List.getElem?_eq_getElem (by omega)
    have hjR:=hh _ (List.getElem_mem (show j < hv.length by omega))
    have hd2:maxI (w64 (w.At - (hv[j]'(by omega)).At)) (w64 ((hv[j]'(by omega)).At - w.At))=distP (hv[j]'(by omega)) w:=by
     unfold distP; rw [maxJ_eq,w64_id (n:=w.At - (hv[j]'(by omega)).At) (by omega),w64_id (n:=(hv[j]'(by omega)).At - w.At) (by omega),Int.max_comm]
    simp only [cond_false,idx_nat,hj,Option.bind_some,apart_ok hR hw,apart_ok hjR hw,hd2]
    cases decide (distP x w < distP (hv[j]'(by omega)) w)with
    | true=>exact⟨(k:Int),rfl,rfl,by omega⟩
    | false=>exact⟨(j:Int),rfl,rfl,by omega⟩
 have run:∀ (xs:List Play) (k:Nat) (s:Int),hv.drop k=xs→(-1≤s∧s < hv.length) → ∃ s',forR (fun k x s=>proof_Compare_L2 (tk,out1) w most hv k x s) xs k s=some (.go s')∧forR (fun k x s=>ref_CompareOf_L1 w most (out2,tl) hv k x s) xs k s=some (.go s')∧(-1≤s'∧s' < hv.length):=by
  intro xs
  induction xs with
  | nil=>exact fun k s _ hs=>⟨s,rfl,rfl,hs⟩
  | cons x xs ih =>
   intro k s hd hs
   obtain ⟨s',a1,a2,a3⟩:=key k x s (drop_get hd) hs
   obtain ⟨s2,b1,b2,b3⟩:=ih (k + 1) s' (drop_next hd) a3
   exact⟨s2,by rw [forR,a1]; exact b1,by rw [forR,a2]; exact b2,b3⟩
 obtain ⟨s,a,b,c,d⟩:=run hv 0 (-1) rfl (by omega)
 exact⟨s,by rw [forL_eq (by omega)]; exact a,by rw [forL_eq (by omega)]; exact b,c,d⟩
theorem outer_eq {want hv:List Play} (hw:∀ x∈want,0≤x.At∧x.At≤345686399999) (hh:∀ x∈hv,0≤x.At∧x.At≤345686399999) (hwl:want.length≤100) (hl:hv.length≤100) (most:Int) :
  ∃ out tk tl,forL want (List.replicate hv.length false,([]:List Match)) (fun k x s=>proof_Compare_L3 hv most k x s)=some (.go (tk,out))∧forL want (([]:List Match),([]:List Int)) (fun k x s=>ref_CompareOf_L2 hv most k x s)=some (.go (out,tl))∧TkI hv.length tk tl∧out.length≤100:=by
 have run:∀ (xs:List Play) (k:Nat) (tk:List Bool) (out:List Match) (tl:List Int),want.drop k=xs→k≤want.length→TkI hv.length tk tl→out.length=k→tl.length≤k → ∃ tk' out' tl',forR (fun k x s=>proof_Compare_L3 hv most k x s) xs k (tk,out)=some (.go (tk',out'))∧forR (fun k x s=>ref_CompareOf_L2 hv most k x s) xs k (out,tl)=some (.go (out',tl'))∧TkI hv.length tk' tl'∧out'.length≤100:=by
  intro xs
  induction xs with
  | nil=>exact fun k tk out tl _ hk hT ho _=>⟨tk,out,tl,rfl,rfl,hT,by omega⟩
  | cons x xs ih =>
   intro k tk out tl hd hk hT ho htl
   have hx:=drop_get hd
   have hkl:=drop_lt hd
   obtain ⟨s,a1,a2,a3,a4⟩:=inner_eq hh (hw x (List.mem_of_getElem? hx)) hT (by omega) out out most
   obtain ⟨t1,t2,t3⟩:=hT
   by_cases hs:s≥0
   ·obtain ⟨j,rfl⟩:∃ j:Nat,s=j:=⟨s.toNat,by omega⟩
    have hj:j < hv.length:=by omega
    have b1:proof_Compare_L3 hv most k x (tk,out)=some (.go (tk.set j true,out ++ [⟨(k:Int),(j:Int)⟩])):=by
     unfold proof_Compare_L3
     rw [a1]
     simp only [Option.bind_some,thenC]
     rw [decide_eq_true hs,cond_true,inR_ok (xs:=tk) (i:=(j:Int)) (by omega) (by omega),Option.bind_some,show 0 + ((j:Int)).toNat=j by omega,t2 j hj,Option.bind_some,Option.bind_some,appL_ok _ _ (by simp; omega)]; rfl
    have b2:ref_CompareOf_L2 hv most k x (out,tl)=some (.go (out ++ [⟨(k:Int),(j:Int)⟩],tl ++ [(j:Int)])):=by
     unfold ref_CompareOf_L2
     rw [a2]
     simp only [Option.bind_some,thenC]
     rw [decide_eq_true hs,cond_true,appL_ok _ _ (by simp; omega),Option.bind_some,Option.bind_some,appL_ok _ _ (by simp; omega)]; rfl
    have hT':TkI hv.length (tk.set j true) (tl ++ [(j:Int)]):=by
     refine⟨by rw [List.length_set]; exact t1,fun i hi => ?_,by simp; omega⟩
     by_cases hij:i=j
     ·subst hij
      rw [set_at (by omega),decide_eq_true (by simp)]
     ·rw [List.getElem?_set_ne (Ne.symm hij),t2 i hi]
      congr 1
      have:((i:Int)∈tl ++ [(j:Int)])↔(i:Int)∈tl:=by simp; omega
      rw [decide_eq_decide]; exact this.symm
    obtain ⟨tk',out',tl',c1,c2,c3,c4⟩:=ih (k + 1) (tk.set j true) (out ++ [⟨(k:Int),(j:Int)⟩]) (tl ++ [(j:Int)]) (drop_next hd) hkl hT' (by first | omega | (simp; omega)) (by first | omega | (simp; omega))
    exact⟨tk',out',tl',by rw [forR,b1]; exact c1,by rw [forR,b2]; exact c2,c3,c4⟩
   ·have b1:proof_Compare_L3 hv most k x (tk,out)=some (.go (tk,out ++ [⟨(k:Int),s⟩])):=by
     unfold proof_Compare_L3
     rw [a1]
     simp only [Option.bind_some,thenC]
     rw [decide_eq_false hs,cond_false,Option.bind_some,appL_ok _ _ (by simp; omega)]; rfl
    have b2:ref_CompareOf_L2 hv most k x (out,tl)=some (.go (out ++ [⟨(k:Int),s⟩],tl)):=by
     unfold ref_CompareOf_L2
     rw [a2]
     simp only [Option.bind_some,thenC]
     rw [decide_eq_false hs,cond_false,Option.bind_some,appL_ok _ _ (by simp; omega)]; rfl
    obtain ⟨tk',out',tl',c1,c2,c3,c4⟩:=ih (k + 1) tk (out ++ [⟨(k:Int),s⟩]) tl (drop_next hd) hkl ⟨t1,t2,t3⟩ (by first | omega | (simp; omega)) (by omega)
    exact⟨tk',out',tl',by rw [forR,b1]; exact c1,by rw [forR,b2]; exact c2,c3,c4⟩
 have h0:TkI hv.length (List.replicate hv.length false) ([]:List Int):=⟨by simp,fun j hj=>by simp [hj],by simp⟩
 obtain ⟨tk,out,tl,a,b,c,d⟩:=run want 0 _ [] [] rfl (by omega) h0 rfl (by simp)
 exact⟨out,tk,tl,by rw [forL_eq (by omega)]; exact a,by rw [forL_eq (by omega)]; exact b,c,d⟩
theorem lefts_eq {n:Nat} {tk:List Bool} {tl:List Int} (hT:TkI n tk tl) (hn:n≤100) (out:List Match):∃ left,forL tk ([]:List Int) (fun k x s=>proof_Compare_L4 k x s)=some (.go left)∧forL (List.range ((n:Int)).toNat) ([]:List Int) (fun k x s=>ref_CompareOf_L3 (out,tl) k x s)=some (.go left)∧left.length≤100:=by
 obtain ⟨t1,t2,t3⟩:=hT
 have run:∀ (m k:Nat) (left:List Int),k + m=n→left.length≤k → ∃ left',forR (fun k x s=>proof_Compare_L4 k x s) (tk.drop k) k left=some (.go left')∧forR (fun k x s=>ref_CompareOf_L3 (out,tl) k x s) (List.range' k m) k left=some (.go left')∧left'.length≤100:=by
  intro m
  induction m with
  | zero =>
   intro k left hk hl
   have:tk.drop k = []:=List.drop_eq_nil_iff.2 (by omega)
   rw [this]
   exact⟨left,rfl,rfl,by omega⟩
  | succ m ih =>
   intro k left hk hl
   have hkt:k < tk.length:=by omega
   rw [List.drop_eq_getElem_cons hkt,List.range'_succ]
   have hg:=t2 k (by omega)
   rw [List.getElem?_eq_getElem hkt,Option.some.injEq]at hg
   have b1:proof_Compare_L4 k tk[k] left=some (.go (if (k:Int)∈tl then left else left ++ [(k:Int)])):=by
    unfold proof_Compare_L4
    rw [hg]
    by_cases hm:(k:Int)∈tl
    ·rw [decide_eq_true hm,if_pos hm]; rfl
    ·rw [decide_eq_false hm,if_neg hm,Bool.not_false,cond_true,appL_ok _ _ (by simp; omega)]; rfl
   have b2:ref_CompareOf_L3 (out,tl) k k left=some (.go (if (k:Int)∈tl then left else left ++ [(k:Int)])):=by
    unfold ref_CompareOf_L3
    simp only []
    rw [contains_eq _ _ t3,Option.bind_some]
    by_cases hm:(k:Int)∈tl
    ·rw [decide_eq_true hm,if_pos hm]; rfl
    ·rw [decide_eq_false hm,if_neg hm,Bool.not_false,cond_true,appL_ok _ _ (by simp; omega)]; rfl
   obtain ⟨left',c1,c2,c3⟩:=ih (k + 1) (if (k:Int)∈tl then left else left ++ [(k:Int)]) (by omega) (by split <;> first | omega | (simp; omega))
   exact⟨left',by rw [forR,b1]; exact c1,by rw [forR,b2]; exact c2,c3⟩
 obtain ⟨left,a,b,c⟩:=run n 0 [] (by omega) (by simp)
 refine⟨left,by rw [forL_eq (by omega)]; exact a,?_,c⟩
 rw [forL_eq (by simp; omega),Int.toNat_natCast,List.range_eq_range']; exact b
theorem compare_eqs {want hv:List Play} (hw:VP want) (hh:VP hv) (hwv:playsV want=0) (hhv:playsV hv=0) (hwl:want.length≤100) (hl:hv.length≤100) {most:Int} (hm:0≤most∧most≤86400000) :
  ∃ out left,proof_Compare want hv most=some (out,left,0)∧ref_CompareOf want hv most=some (out,left)∧out.length≤100∧left.length≤100:=by
 obtain ⟨out,tk,tl,a1,a2,a3,a4⟩:=outer_eq hw.at_ hh.at_ hwl hl most
 obtain ⟨left,b1,b2,b3⟩:=lefts_eq a3 hl out
 refine⟨out,left,?_,?_,a4,b3⟩
 ·unfold proof_Compare
  have e1:forL (List.range (2:Int).toNat) () (fun k x s=>proof_Compare_L1 want hv k x s)=some (.go ()):=by
   rw [forL_eq (by simp)]
   have a0:proof_Compare_L1 want hv 0 0 ()=some (.go ()):=by
    unfold proof_Compare_L1
    have:idx ([want,hv]:List (List Play)) ((0:Nat):Int)=some want:=rfl
    rw [this,Option.bind_some,checkPlays_eq hw.good (by omega),hwv]; rfl
   have a1:proof_Compare_L1 want hv (0 + 1) 1 ()=some (.go ()):=by
    unfold proof_Compare_L1
    have:idx ([want,hv]:List (List Play)) ((0 + 1:Nat):Int)=some hv:=rfl
    rw [this,Option.bind_some,checkPlays_eq hh.good (by omega),hhv]; rfl
   have er:List.range (2:Int).toNat = [0,1]:=rfl
   rw [er]
   simp only [forR,a0,a1,Option.bind_some]
  rw [e1]
  simp only [Option.bind_some,thenC,outside_eq,outB_in hm,cond_false]
  have emk:mkN (hv.length:Int) 1=some hv.length:=by
   unfold mkN
   rw [if_pos (by omega)]; simp
  rw [emk,Option.bind_some,a1]
  simp only [Option.bind_some,thenC,b1]
 ·unfold ref_CompareOf
  rw [a2]
  simp only [Option.bind_some,thenC,b2]
theorem compare_bad {want hv:List Play} (hw:∀ x∈want,GoodP x) (hh:∀ x∈hv,GoodP x) (hwl:want.length≤100) (hl:hv.length≤100) {most:Int} (h:or0 (playsV want) (or0 (playsV hv) (bif outB most 0 86400000 then 1 else 0))≠0) :
  proof_Compare want hv most=some ([],[],or0 (playsV want) (or0 (playsV hv) (bif outB most 0 86400000 then 1 else 0))):=by
 unfold proof_Compare
 rw [forL_eq (by simp)]
 have a0:proof_Compare_L1 want hv 0 0 ()=some (bif playsV want != 0 then .ret ([],[],playsV want)else .go ()):=by
  unfold proof_Compare_L1
  have:idx ([want,hv]:List (List Play)) ((0:Nat):Int)=some want:=rfl
  rw [this,Option.bind_some,checkPlays_eq hw (by omega),Option.bind_some]
  cases playsV want != 0 <;> rfl
 have a1:proof_Compare_L1 want hv (0 + 1) 1 ()=some (bif playsV hv != 0 then .ret ([],[],playsV hv)else .go ()):=by
  unfold proof_Compare_L1
  have:idx ([want,hv]:List (List Play)) ((0 + 1:Nat):Int)=some hv:=rfl
  rw [this,Option.bind_some,checkPlays_eq hh (by omega),Option.bind_some]
  cases playsV hv != 0 <;> rfl
 have er:List.range (2:Int).toNat = [0,1]:=rfl
 rw [er]
 unfold or0 at h ⊢
 cases h1:playsV want == 0 with
 | false =>
  have n1:(playsV want != 0)=true:=by rw [bne,h1]; rfl
  simp only [forR,a0,n1,cond_true,cond_false,Option.bind_some,thenC]
 | true =>
  have n1:(playsV want != 0)=false:=by rw [bne,h1]; rfl
  rw [h1]at h
  simp only [cond_true]at h
  cases h2:playsV hv == 0 with
  | false =>
   have n2:(playsV hv != 0)=true:=by rw [bne,h2]; rfl
   simp only [forR,a0,a1,n1,n2,cond_true,cond_false,Option.bind_some,thenC]
  | true =>
   have n2:(playsV hv != 0)=false:=by rw [bne,h2]; rfl
   rw [h2]at h
   simp only [cond_true]at h
   cases h3:outB most 0 86400000 with
   | false=>rw [h3]at h; exact absurd rfl h
   | true =>
    simp only [forR,a0,a1,n1,n2,cond_true,cond_false,Option.bind_some,thenC,outside_eq,h3]
end Go.Proofs.Ythcdokkcamcnmab.Law

open Go Go.Eng
namespace Go.Proofs.Ythcdokkcamcnmab.Law
set_option linter.unusedVariables false
set_option linter.unusedSimpArgs false
def GoodB (x:Beat):Prop:=Short x.Player
end Go.Proofs.Ythcdokkcamcnmab.Law

open Go Go.Eng
namespace Go.Proofs.Ythcdokkcamcnmab.Law
set_option linter.unusedVariables false
set_option linter.unusedSimpArgs false
def beforeB (o b:Beat):Prop:=lt o.Player b.Player∨o.Player=b.Player∧o.At < b.At
instance (o b:Beat):Decidable (beforeB o b):=by unfold beforeB lt; infer_instance
def bStp (p:Option Beat) (b:Beat):Int :=
 bif !keyB b.Player then 5 else bif !momB b.At || !momB b.Clock then 1 else match p with
  | none=>0
  | some o=>if beforeB o b then (if b.Player=o.Player∧b.Clock≤o.Clock then 16 else 0)else 7
def beatsF (l:List Beat):Int:=bif decide (l.length > 500)then 2 else chkG bStp none l
theorem compareBeats_eq (a b:Beat):∃ n,proof_compareBeats a b=some n∧(n≥0 ↔ ¬ beforeB a b):=by
 refine⟨_,by simp only [proof_compareBeats,compare_eq,cmpInt_eq,or2_eq,Option.bind_some]; rfl,?_⟩
 unfold or0 beforeB cmpI
 rcases cmpB_spec a.Player b.Player with⟨h,k⟩ | ⟨h,k⟩ | ⟨h,k⟩
 ·rw [k]; simp [h]
 ·rw [k,h]
  have:=lt_irr b.Player
  by_cases h1:a.At < b.At
  ·simp [h1]
  ·by_cases h2:a.At > b.At
   ·simp [h1,h2,this]
   ·simp [h1,h2,this]
 ·rw [k]
  have h1:¬ lt a.Player b.Player:=fun h2=>lt_irr _ (lt_trans h h2)
  have h2:a.Player≠b.Player:=fun e=>lt_irr _ (e ▸ h)
  simp [h1,h2]
theorem beatsK (l:List Beat) (hs:∀ x∈l,GoodB x) (hl:l.length≤1000000):proof_CheckBeats l=some (beatsF l):=by
 unfold proof_CheckBeats beatsF
 have e:decide ((l.length:Int) > 500)=decide (l.length > 500):=decide_eq_decide.2 (by omega)
 rw [e]
 cases decide (l.length > 500)with
 | true=>rfl
 | false =>
  simp only [cond_false]
  rw [forL_eq (by omega),chkG_prev (stp:=bStp) l l 0 rfl (fun k x hx => ?_)]
  ·simp only [Option.bind_some,outC_then]; rfl
  ·have hxs:Short x.Player:=hs x (List.mem_of_getElem? hx)
   have eo:kit_Outside x.Clock 0 345686399999=some (!momB x.Clock):=by rw [outside_eq]; simp [momB]
   simp only [proof_CheckBeats_L1,isKey_eq x.Player (by unfold Short at hxs; omega),isMoment_eq,eo,Option.bind_some,bStp]
   cases hk:keyB x.Player with
   | false=>rfl
   | true =>
   simp only [Bool.not_true,cond_false]
   cases momB x.At with
   | false=>rfl
   | true =>
   simp only [Bool.not_true,cond_false,Bool.false_or,Option.bind_some]
   cases momB x.Clock with
   | false=>rfl
   | true =>
   simp only [Bool.not_true,cond_false]
   by_cases hk0:0 < k
   ·obtain ⟨y,h1,h2⟩:=idx_prev hx hk0 (by omega)
    have hd:decide ((k:Int) > 0)=true:=by simp; omega
    obtain ⟨n,hn,hn2⟩:=compareBeats_eq y x
    simp only [hd,cond_true,h1,Option.bind_some,prevO,if_neg (show ¬ k=0 by omega),h2,hn]
    by_cases hb:beforeB y x
    ·have:decide (n≥0)=false:=by simp only [decide_eq_false_iff_not]; exact fun h=>(hn2.1 h) hb
     simp only [this,cond_false,if_pos hb,sEq_dec]
     by_cases he:x.Player=y.Player
     ·by_cases hc:x.Clock≤y.Clock
      ·simp [he,hc,outC]
      ·simp [he,hc,outC]
     ·simp [he,outC]
    ·have:decide (n≥0)=true:=decide_eq_true (hn2.2 hb)
     simp only [this,cond_true,if_neg hb,outC]; rfl
   ·have hk0:k=0:=by omega
    subst hk0
    rfl
theorem before_trans {a b c:Beat} (h:beforeB a b) (k:beforeB b c):beforeB a c:=by
 rcases h with h | ⟨h1,h2⟩
 ·rcases k with k | ⟨k1,_⟩
  ·exact .inl (lt_trans h k)
  ·exact .inl (k1 ▸ h)
 ·rcases k with k | ⟨k1,k2⟩
  ·exact .inl (h1 ▸ k)
  ·exact .inr ⟨h1.trans k1,by omega⟩
theorem bStp_0 {p:Option Beat} {b:Beat} (h:bStp p b=0):momB b.At=true∧momB b.Clock=true ∧ ∀ o,p=some o→beforeB o b:=by
 unfold bStp at h
 cases hk:keyB b.Player with
 | false=>rw [hk]at h; cases h
 | true =>
 rw [hk]at h
 simp only [Bool.not_true,cond_false]at h
 cases ha:momB b.At with
 | false=>rw [ha]at h; cases h
 | true =>
 cases hc:momB b.Clock with
 | false=>rw [ha,hc]at h; cases h
 | true =>
 rw [ha,hc]at h
 simp only [Bool.not_true,Bool.or_self,cond_false]at h
 refine⟨rfl,rfl,fun o ho => ?_⟩
 subst ho
 simp only at h
 by_cases hb:beforeB o b
 ·exact hb
 ·rw [if_neg hb]at h; cases h
def SortedB:List Beat→Prop
 | []=>True
 | x::xs=>(∀ y∈xs,beforeB x y)∧SortedB xs
theorem chkB_sorted:∀ {l:List Beat} {p:Option Beat},chkG bStp p l=0→(∀ o,p=some o → ∀ y∈l,beforeB o y)∧SortedB l ∧ ∀ x∈l,momB x.At=true∧momB x.Clock=true
 | [],_,_=>⟨fun _ _ y hy=>(by cases hy),trivial,fun x hx=>(by cases hx)⟩
 | x::xs,p,h=>by
  obtain ⟨h1,h2⟩:=chkG_0 h
  obtain ⟨i1,i2,i3⟩:=chkB_sorted h2
  obtain ⟨j1,j2,j3⟩:=bStp_0 h1
  refine⟨fun o ho y hy => ?_,⟨i1 x rfl,i2⟩,fun y hy => ?_⟩
  ·rcases List.mem_cons.1 hy with rfl | hy
   ·exact j3 o ho
   ·exact before_trans (j3 o ho) (i1 x rfl y hy)
  ·rcases List.mem_cons.1 hy with rfl | hy
   ·exact⟨j1,j2⟩
   ·exact i3 y hy
theorem beatsF_0 {l:List Beat} (h:beatsF l=0):SortedB l ∧ ∀ x∈l,momB x.At=true∧momB x.Clock=true:=by
 unfold beatsF at h
 cases hl:decide (l.length > 500)with
 | true=>rw [hl]at h; cases h
 | false=>rw [hl,cond_false]at h; exact (chkB_sorted h).2
end Go.Proofs.Ythcdokkcamcnmab.Law

open Go Go.Eng
namespace Go.Proofs.Ythcdokkcamcnmab.Law
set_option linter.unusedVariables false
set_option linter.unusedSimpArgs false
structure Cut (m:List Beat_) (n:Int) (k:Nat):Prop where
 le:k≤m.length
 lo:∀ i (h:i < m.length),i < k→m[i].f_from≤n
 hi:∀ (h:k < m.length),n < m[k].f_from
theorem cut_ex (m:List Beat_) (n:Int):∃ k,Cut m n k:=by
 induction m with
 | nil=>exact⟨0,⟨Nat.le_refl _,fun i h=>absurd h (Nat.not_lt_zero i),fun h=>absurd h (Nat.lt_irrefl 0)⟩⟩
 | cons x m ih =>
  by_cases hx:x.f_from≤n
  ·obtain ⟨k,h1,h2,h3⟩:=ih
   refine⟨k + 1,⟨by simp; omega,fun i h hik => ?_,fun h => ?_⟩⟩
   ·cases i with
    | zero=>exact hx
    | succ i=>exact h2 i (by simpa using h) (by omega)
   ·exact h3 (by simpa using h)
  ·exact⟨0,⟨Nat.zero_le _,fun i h hik=>absurd hik (Nat.not_lt_zero i),fun h=>by simpa using hx⟩⟩
def finV (x:Int):Int×Int:=bif momB x then (x,0)else (0,11)
def farB (p q:Beat_):Bool:=decide (w64 (q.f_from - p.f_from) > 2592000000) || decide (w64 (q.f_to - p.f_to) > 2592000000)
def between (p q:Beat_) (n:Int):Int:=w64 (p.f_to + w64 ((w64 ((w64 (n - p.f_from)) * (w64 (q.f_to - p.f_to)))).tdiv (w64 (q.f_from - p.f_from))))
def z2:Beat_:=⟨0,0⟩
def mapV (m:List Beat_) (n:Int) (k:Nat):Int×Int :=
 if m.length=0 then (0,8)else if k=0 then finV ((m.getD 0 z2).f_to + n - (m.getD 0 z2).f_from)else
 if k=m.length then finV (w64 (w64 ((m.getD (k - 1) z2).f_to + n) - (m.getD (k - 1) z2).f_from))else
 bif farB (m.getD (k - 1) z2) (m.getD k z2)then (0,2)else finV (between (m.getD (k - 1) z2) (m.getD k z2) n)
def inM (x:Int):Prop:=0≤x∧x≤345686399999
def BndM (m:List Beat_):Prop := ∀ x∈m,inM x.f_from∧inM x.f_to
theorem getD_at {α:Type} {m:List α} {i:Nat} {z:α} (h:i < m.length):m.getD i z=m[i]:=by
 rw [List.getD_eq_getElem?_getD,List.getElem?_eq_getElem h]; rfl
theorem finV_eq (x:Int):((kit_IsMoment x).bind fun r=>bif (!r)then some (0,11)else some (x,0))=some (finV x):=by
 rw [isMoment_eq,Option.bind_some]; unfold finV
 cases momB x <;> rfl
theorem mapped_iter {m:List Beat_} {n:Int} {k:Nat} (hc:Cut m n k) (hl:m.length≤1000000):∀ (d j:Nat),j + d=k→iterN (fun s=>proof_mapped_L1 m n s) (d + 1) (j:Int)=some (.go (k:Int))
 | 0,j,h=>by
  have hj:j=k:=by omega
  subst hj
  have hst:proof_mapped_L1 m n (j:Int)=some (.brk (j:Int)):=by
   unfold proof_mapped_L1
   by_cases hlt:j < m.length
   ·have h1:decide ((j:Int) < (m.length:Int))=true:=by simp; omega
    have h2:decide ((m[j]).f_from≤n)=false:=by have:=hc.hi hlt; simp; omega
    simp only [h1,cond_true,idx_nat,List.getElem?_eq_getElem hlt,Option.bind_some,h2,cond_false]
   ·have h1:decide ((j:Int) < (m.length:Int))=false:=by simp; omega
    simp only [h1,cond_false,Option.bind_some]
  rw [iterN,hst]; rfl
 | d + 1,j,h=>by
  have hjk:j < k:=by omega
  have hlt:j < m.length:=by have:=hc.le; omega
  have hst:proof_mapped_L1 m n (j:Int)=some (.go ((j + 1:Nat):Int)):=by
   unfold proof_mapped_L1
   have h1:decide ((j:Int) < (m.length:Int))=true:=by simp; omega
   have h2:decide ((m[j]).f_from≤n)=true:=decide_eq_true (hc.lo j hlt hjk)
   simp only [h1,cond_true,idx_nat,List.getElem?_eq_getElem hlt,Option.bind_some,h2]
   rw [w64_id (by omega)]; congr 2
  rw [iterN,hst,Option.bind_some]
  exact mapped_iter hc hl d (j + 1) (by omega)
theorem mapped_eq {m:List Beat_} {n:Int} {k:Nat} (hc:Cut m n k) (hb:BndM m) (hn:inM n) (hl:m.length≤1000000):proof_mapped m n=some (mapV m n k):=by
 unfold proof_mapped mapV
 by_cases h0:m.length=0
 ·have:((m.length:Int) == 0)=true:=by simp [h0]
  simp only [this,cond_true,if_pos h0]
 ·have:((m.length:Int) == 0)=false:=by simpa using h0
  have hlo:=iter_loopO (mapped_iter hc hl k 0 (by omega))
  rw [show ((0:Nat):Int)=0 from rfl]at hlo
  simp only [this,cond_false,if_neg h0,hlo,Option.bind_some,thenC_go]
  by_cases hk0:k=0
  ·subst hk0
   have h1:(((0:Nat):Int) == 0)=true:=rfl
   have h2:idx m 0=some (m.getD 0 z2):=by
    have:=idx_nat m 0
    rw [show ((0:Nat):Int)=0 from rfl]at this
    rw [this,getD_at (by omega)]; exact List.getElem?_eq_getElem _
   have hm:m.getD 0 z2∈m:=by rw [getD_at (by omega)]; exact List.getElem_mem _
   obtain ⟨⟨b1,b2⟩,b3,b4⟩:=hb _ hm
   obtain ⟨n1,n2⟩:=hn
   simp only [h1,cond_true,h2,Option.bind_some,if_true]
   rw [w64_id (n:=(m.getD 0 z2).f_from - n) (by omega),w64_id (by omega),show (m.getD 0 z2).f_to - ((m.getD 0 z2).f_from - n)=(m.getD 0 z2).f_to + n - (m.getD 0 z2).f_from by omega]
   exact finV_eq _
  ·have h1:((k:Int) == 0)=false:=by simpa using hk0
   have hle:=hc.le
   have hw:w64 ((k:Int) - 1)=((k - 1:Nat):Int):=by rw [w64_id (by omega)]; omega
   have hp:idx m (w64 ((k:Int) - 1))=some (m.getD (k - 1) z2):=by rw [hw,idx_nat,getD_at (by omega)]; exact List.getElem?_eq_getElem _
   have hpl:(m.getD (k - 1) z2).f_from≤n:=by rw [getD_at (by omega)]; exact hc.lo _ _ (by omega)
   simp only [h1,cond_false,if_neg hk0,hp,Option.bind_some]
   by_cases hkl:k=m.length
   ·have h2:((k:Int) == (m.length:Int))=true:=by simp [hkl]
    simp only [h2,cond_true,if_pos hkl]
    exact finV_eq _
   ·have hlt:k < m.length:=by omega
    have h2:((k:Int) == (m.length:Int))=false:=by simp; omega
    have hq:idx m (k:Int)=some (m.getD k z2):=by rw [idx_nat,getD_at hlt]; exact List.getElem?_eq_getElem _
    have hqh:n < (m.getD k z2).f_from:=by rw [getD_at hlt]; exact hc.hi hlt
    have hbp:=hb (m.getD (k - 1) z2) (by rw [getD_at (by omega)]; exact List.getElem_mem _)
    have hbq:=hb (m.getD k z2) (by rw [getD_at hlt]; exact List.getElem_mem _)
    obtain ⟨⟨b1,b2⟩,_⟩:=hbp
    obtain ⟨⟨b5,b6⟩,_⟩:=hbq
    have hdne:w64 ((m.getD k z2).f_from - (m.getD (k - 1) z2).f_from)≠0:=by rw [w64_id (by omega)]; omega
    simp only [h2,cond_false,if_neg hkl,hq,Option.bind_some]
    have hfar:(bif (decide ((w64 ((m.getD k z2).f_from - (m.getD (k - 1) z2).f_from)) > 2592000000))then some true else some (decide ((w64 ((m.getD k z2).f_to - (m.getD (k - 1) z2).f_to)) > 2592000000)))=some (farB (m.getD (k - 1) z2) (m.getD k z2)):=by
     unfold farB
     cases decide ((w64 ((m.getD k z2).f_from - (m.getD (k - 1) z2).f_from)) > 2592000000) <;> rfl
    rw [hfar,Option.bind_some]
    cases farB (m.getD (k - 1) z2) (m.getD k z2)with
    | true=>rfl
    | false =>
     simp only [cond_false,quoO,if_neg hdne,Option.bind_some]
     exact finV_eq _
def gB (b:Beat):Beat_:=⟨b.Clock,b.At⟩
end Go.Proofs.Ythcdokkcamcnmab.Law

open Go Go.Eng
namespace Go.Proofs.Ythcdokkcamcnmab.Law
set_option linter.unusedVariables false
set_option linter.unusedSimpArgs false
def ofB (p:ByteArray) (b:Beat):Bool:=decide (b.Player=p)
def gK (b:Beat):Beat_:=⟨b.At,b.Clock⟩
theorem beatsOf_eq (l:List Beat) (p:ByteArray) (back:Bool) (hl:l.length≤1000000):proof_beatsOf l p back=some ((l.filter (ofB p)).map (bif back then gK else gB)):=by
 have run:∀ (xs:List Beat) (k:Nat) (acc:List Beat_),acc.length + xs.length≤1000000→forR (fun k x s=>proof_beatsOf_L1 p back k x s) xs k acc=some (.go (acc++(xs.filter (ofB p)).map (bif back then gK else gB))):=by
  intro xs
  induction xs with
  | nil=>intro k acc _; simp [forR]
  | cons x xs ih =>
   intro k acc hlen
   simp only [List.length_cons]at hlen
   have hst:proof_beatsOf_L1 p back k x acc=some (.go (acc++(bif ofB p x then [(bif back then gK else gB) x]else []))):=by
    have hsn:sNe x.Player p = !ofB p x:=sNe_dec _ _
    unfold proof_beatsOf_L1
    rw [hsn]
    cases ofB p x with
    | false=>simp
    | true =>
     simp only [Bool.not_true,cond_false,cond_true]
     cases back with
     | true=>simp only [cond_true,appL_ok acc [_] (show acc.length + 1≤_ by omega),Option.bind_some]; rfl
     | false=>simp only [cond_false,appL_ok acc [_] (show acc.length + 1≤_ by omega),Option.bind_some]; rfl
   rw [forR,hst,Option.bind_some]
   simp only
   rw [ih _ _ (by cases ofB p x <;> simp <;> omega),List.filter_cons]
   cases ofB p x <;> simp
 unfold proof_beatsOf
 rw [forL_eq (by omega),run l 0 [] (by simpa using hl),Option.bind_some,thenC_go,List.nil_append]
def namedF (p:ByteArray):Int:=bif keyB p then 0 else 5
def momF (n:Int):Int:=bif momB n then 0 else 1
theorem bnd_of {l:List Beat} {p:ByteArray} (h:∀ x∈l,momB x.At=true∧momB x.Clock=true) (back:Bool):BndM ((l.filter (ofB p)).map (bif back then gK else gB)):=by
 intro y hy
 obtain ⟨x,hx,rfl⟩:=List.mem_map.1 hy
 obtain ⟨h1,h2⟩:=h x (List.mem_filter.1 hx).1
 cases back with
 | true=>exact⟨momB_t h1,momB_t h2⟩
 | false=>exact⟨momB_t h2,momB_t h1⟩
theorem asked_eq (l:List Beat) (p:ByteArray) (n:Int) (back:Bool) (hs:∀ x∈l,GoodB x) (hl:l.length≤1000000) (hp:Short p) :
  ∃ k,(or0 (beatsF l) (or0 (namedF p) (momF n))=0→Cut ((l.filter (ofB p)).map (bif back then gK else gB)) n k) ∧
   proof_asked l p n back=some (bif or0 (beatsF l) (or0 (namedF p) (momF n)) == 0 then mapV ((l.filter (ofB p)).map (bif back then gK else gB)) n k else (0,or0 (beatsF l) (or0 (namedF p) (momF n)))):=by
 obtain ⟨k,hk⟩:=cut_ex ((l.filter (ofB p)).map (bif back then gK else gB)) n
 refine⟨k,fun _=>hk,?_⟩
 unfold proof_asked
 simp only [beatsK l hs hl,Option.bind_some,isKey_eq p (by unfold Short at hp; omega),isMoment_eq,beatsOf_eq l p back hl]
 cases hb:beatsF l == 0 with
 | false =>
  have h1:(beatsF l != 0)=true:=by simp [bne,hb]
  have h2:or0 (beatsF l) (or0 (namedF p) (momF n))=beatsF l:=by unfold or0; rw [hb]; rfl
  simp only [h1,cond_true,h2,hb,cond_false]
 | true =>
  have h1:(beatsF l != 0)=false:=by simp [bne,hb]
  have h0:beatsF l=0:=eq_of_beq hb
  have h2:or0 (beatsF l) (or0 (namedF p) (momF n))=or0 (namedF p) (momF n):=by rw [h0]; rfl
  simp only [h1,cond_false,h2]
  unfold namedF momF or0
  cases keyB p with
  | false=>rfl
  | true =>
   simp only [Bool.not_true,cond_false,cond_true]
   cases hm:momB n with
   | false=>rfl
   | true =>
    simp only [Bool.not_true,cond_false,cond_true]
    have hlen:(l.filter (ofB p)).length≤1000000:=Nat.le_trans (List.length_filter_le _ _) hl
    rw [mapped_eq hk (bnd_of (beatsF_0 h0).2 back) (momB_t hm) (by simpa using hlen)]
    rfl
theorem eta2 {α β:Type} (o:Option (α×β)):(o.bind fun r=>some (r.1,r.2))=o:=by cases o <;> rfl
theorem rightA (b:List Beat) (p:ByteArray) (n:Int):proof_Right b p n=proof_asked b p n false:=eta2 _
theorem proved_ok:law_proved=some true:=by
 unfold law_proved
 rw [rightA]
 obtain ⟨k,hk,h⟩:=asked_eq ([(⟨(⟨#[112]⟩:ByteArray),0,100⟩:Beat),(⟨(⟨#[112]⟩:ByteArray),1000,1300⟩:Beat)]:List Beat) (⟨#[112]⟩:ByteArray) 700 false
  (by intro x hx; simp only [List.mem_cons,List.not_mem_nil,or_false]at hx; rcases hx with rfl | rfl <;> exact short_lit rfl) (by simp) (short_lit rfl)
 rw [h]
 have h0:or0 (beatsF ([(⟨(⟨#[112]⟩:ByteArray),0,100⟩:Beat),(⟨(⟨#[112]⟩:ByteArray),1000,1300⟩:Beat)]:List Beat)) (or0 (namedF (⟨#[112]⟩:ByteArray)) (momF 700))=0:=by decide +kernel
 have hc:=hk h0
 have hf:(([(⟨(⟨#[112]⟩:ByteArray),0,100⟩:Beat),(⟨(⟨#[112]⟩:ByteArray),1000,1300⟩:Beat)]:List Beat).filter (ofB (⟨#[112]⟩:ByteArray))).map (bif false then gK else gB) = [⟨100,0⟩,⟨1300,1000⟩]:=by kernel_rfl
 have hk1:k=1:=by
  rw [hf]at hc
  have h1:=hc.le
  have h2:k≤2:=h1
  by_cases e0:k=0
  ·subst e0; have:=hc.hi (by decide); simp at this
  ·by_cases e2:k=2
   ·subst e2; have:=hc.lo 1 (by decide) (by decide); simp at this
   ·omega
 subst hk1
 rw [h0,hf]
 decide +kernel
end Go.Proofs.Ythcdokkcamcnmab.Law

