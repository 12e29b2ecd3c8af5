/-
  THE PLAIN LAW (part 4).
-/
import Derived.Test.YtnfojnnfidnikaeGreatDoorPl3
import Derived.Test.YtnfojnnfidnikaeGreatDoorDefs
open Go Go.Eng
namespace Go.Proofs.YtnfojnnfidnikaeGreatDoor.Law
set_option linter.unusedVariables false
set_option linter.unusedSimpArgs false
def Ox (p:Play) (zone:Int):Int:=(p.At+zone*60000) / 86400000
theorem day_eq {p:Play} {zone:Int} (j:0<=p.At/\p.At<=345686399999) (h : -1440<=zone/\zone<=1440):uo p.At zone=some (Ox p zone):=by
 unfold uo Ox
 have h1:w64 (zone*60000)=zone*60000:=dh (by omega)
 have h2:w64 (p.At+zone*60000)=p.At+zone*60000:=dh (by omega)
 have f:w64 (p.At+zone*60000+86400000)=p.At+zone*60000+86400000:=dh (by omega)
 rw [h1,h2,f,Int.tdiv_eq_ediv_of_nonneg (by omega),dh (n:=(p.At+zone*60000+86400000) / 86400000) (by omega),dh (by omega)]
 congr 1;omega
def sameK (k t:Tally):Bool:=decide (t.Player=k.Player)&&(decide (t.Item=k.Item)&&decide (t.Day=k.Day))
theorem Bq {k t:Tally}:sameK k t=true↔t.Player=k.Player/\t.Item=k.Item/\t.Day=k.Day:=by unfold sameK;simp
def ixT (k:Tally):List Tally->Option Nat
 | []=>none
 | t::ts=>if sameK k t=true then some 0 else (ixT k ts).map (· + 1)
theorem Ns {k:Tally}:∀{ts:List Tally} {i:Nat},ixT k ts=some i->∃t,ts[i]? = some t/\sameK k t=true
 | t::ts,i,h=>by
  simp only [ixT]at h
  split at h
  ·rename_i h1
   simp only [so_]at h;subst h
   exact⟨t,rfl,h1⟩
  ·simp only [Option.map_eq_some_iff]at h
   obtain ⟨j,hj,rfl⟩:=h
   obtain ⟨t',h1,h2⟩:=Ns hj
   exact⟨t',by simpa using h1,h2⟩
 | [],_,h=>by cases h
theorem Nn {k:Tally}:∀{ts:List Tally},ixT k ts=none->∀t∈ts,sameK k t=false
 | t::ts,h=>by
  simp only [ixT]at h
  split at h
  ·cases h
  ·rename_i h1
   simp only [Option.map_eq_none_iff]at h
   intro x f
   rcases List.mem_cons.1 f with rfl|f
   ·simpa using h1
   ·exact Nn h x f
 | [],_=>λx f=>by cases f
theorem Pz {k:Tally} {x:Tally} (f:sameK k x=true):∀{ts:List Tally},ixT k ts=none->ixT k (ts++[x])=some ts.length
 | [],_=>by simp [ixT,f]
 | t::ts,h=>by
  simp only [ixT]at h
  split at h
  ·cases h
  ·rename_i h1
   simp only [Option.map_eq_none_iff]at h
   simp only [List.cons_append,ixT,if_neg h1,Pz f h,Option.map_some,List.length_cons]
theorem PM {k x y:Tally} {i:Nat} (hs:sameK k x=sameK k y):∀{ts:List Tally} {j:Nat},ts[j]? = some x->ixT k (ts.set j y)=ixT k ts
 | t::ts,0,h=>by
  simp only [List.getElem?_cons_zero,so_]at h;subst h
  simp only [List.set_cons_zero,ixT,hs]
 | t::ts,j+1,h=>by
  simp only [List.set_cons_succ,ixT,PM (i:=i) hs (ts:=ts) (j:=j) (by simpa using h)]
 | [],_,h=>by cases h
def kT (p:Play) (zone:Int):Tally:=⟨p.Player,p.Item,Ox p zone,0,0⟩
def upT (t:Tally) (p:Play):Tally:=⟨t.Player,t.Item,t.Day,t.Many+1,t.Long+p.Long⟩
def pU (zone:Int) (ts:List Tally) (p:Play):List Tally:=match ixT (kT p zone) ts with | none=>ts++[kT p zone] | some _=>ts
theorem Mv (zone:Int) (ts:List Tally) (p:Play):∃i t,ixT (kT p zone) (pU zone ts p)=some i/\(pU zone ts p)[i]? = some t/\sameK (kT p zone) t=true:=by
 have f:sameK (kT p zone) (kT p zone)=true:=Bq.2 ⟨rfl,rfl,rfl⟩
 unfold pU
 cases h:ixT (kT p zone) ts with
 | none =>
  refine⟨ts.length,kT p zone,Pz f h,by simp,f⟩
 | some i =>
  obtain ⟨t,h1,h2⟩:=Ns h
  exact⟨i,t,h,h1,h2⟩
def stepT (zone:Int) (ts:List Tally) (p:Play):List Tally:=match ixT (kT p zone) (pU zone ts p)with
 | none=>ts
 | some i=>match (pU zone ts p)[i]? with
  | none=>ts
  | some t=>(pU zone ts p).set i (upT t p)
theorem NB {zone:Int} {ts:List Tally} {p:Play} {i:Nat} {t:Tally} (h1:ixT (kT p zone) (pU zone ts p)=some i) (h2:(pU zone ts p)[i]? = some t):stepT zone ts p=(pU zone ts p).set i (upT t p):=by
 unfold stepT;rw [h1];simp only [h2]
structure TT (n:Nat) (ts:List Tally):Prop where
 len:ts.length<=n
 day:∀t∈ts,-1000000<=t.Day/\t.Day<=1000000
 many:∀t∈ts,0<=t.Many/\t.Many<=n
 lo:∀t∈ts,0<=t.Long/\t.Long<=86400000*n
 dif:ts.Pairwise (λa b=>sameK a b=false)
theorem Hl {a b:Tally}:sameK a b=sameK b a:=by
 rw [Bool.eq_iff_iff,Bq,Bq]
 exact⟨fun⟨h1,h2,f⟩=>⟨h1.symm,h2.symm,f.symm⟩,fun⟨h1,h2,f⟩=>⟨h1.symm,h2.symm,f.symm⟩⟩
theorem dayZ_in {p:Play} {zone:Int} (h:0<=p.At/\p.At<=345686399999) (f : -1440<=zone/\zone<=1440) : -1000000<=Ox p zone/\Ox p zone<=1000000:=by
 unfold Ox;omega
theorem M9 {zone:Int} {n:Nat} {ts:List Tally} {p:Play} (h:TT n ts) (F:0<=p.At/\p.At<=345686399999) (B : -1440<=zone/\zone<=1440):TT (n+1) (pU zone ts p):=by
 obtain ⟨h1,h2,j,o,A⟩:=h
 unfold pU
 cases hi:ixT (kT p zone) ts with
 | some i=>exact⟨by simp only [];omega,h2,λt f=>by have:=j t f;omega,λt f=>by have:=o t f;omega,A⟩
 | none =>
  have I:=dayZ_in F B
  refine⟨by simp;omega,λt f => ?_,λt f => ?_,λt f => ?_,?_⟩
  ·rcases List.mem_append.1 f with f|f
   ·exact h2 t f
   ·rw [List.mem_singleton.1 f];exact I
  ·rcases List.mem_append.1 f with f|f
   ·have:=j t f;omega
   ·rw [List.mem_singleton.1 f];show (0:Int)<=0/\(0:Int)<=_;omega
  ·rcases List.mem_append.1 f with f|f
   ·have:=o t f;omega
   ·rw [List.mem_singleton.1 f];show (0:Int)<=0/\(0:Int)<=_;omega
  ·refine List.pairwise_append.2 ⟨A,List.pairwise_singleton _ _,λa J b hb => ?_⟩
   rw [List.mem_singleton.1 hb,Hl]
   exact Nn hi a J
theorem RG {zone:Int} {n:Nat} {ts:List Tally} {p:Play} (h:TT n ts) (A:0<=p.At/\p.At<=345686399999) (hl:1<=p.Long/\p.Long<=86400000) (M : -1440<=zone/\zone<=1440):TT (n+1) (stepT zone ts p):=by
 obtain ⟨i,t,T,i2,i3⟩:=Mv zone ts p
 rw [NB T i2]
 have N:=M9 h A M
 have O:∀x∈pU zone ts p,x.Many<=n/\x.Long<=86400000*n:=λx f=>by
  unfold pU at f
  split at f
  ·rcases List.mem_append.1 f with f|f
   ·exact⟨(h.many x f).2,(h.lo x f).2⟩
   ·rw [List.mem_singleton.1 f];show (0:Int)<=n/\(0:Int)<=86400000*n;omega
  ·exact⟨(h.many x f).2,(h.lo x f).2⟩
 have o:=List.mem_of_getElem? i2
 obtain ⟨Z,Y⟩:=O t o
 obtain ⟨h1,h2,J,L,R⟩:=N
 refine⟨by rw [List.length_set];exact h1,IU h2 (h2 t o),IU J ?_,IU L ?_,?_⟩
 ·have:=J t o;show 0<=t.Many+1/\t.Many+1<=((n+1:Nat):Int);omega
 ·have:=L t o;show 0<=t.Long+p.Long/\t.Long+p.Long<=86400000*((n+1:Nat):Int);omega
 ·refine List.pairwise_iff_getElem.2 (λa b B hb I => ?_)
  simp only [List.length_set]at B hb
  have A:=List.pairwise_iff_getElem.1 R a b B hb I
  obtain ⟨W,F⟩:=List.getElem?_eq_some_iff.1 i2
  have e:∀j (hj:j<(pU zone ts p).length),sameK (((pU zone ts p).set i (upT t p))[j]'(by rw [List.length_set];exact hj))=sameK (pU zone ts p)[j]/\∀k,sameK k (((pU zone ts p).set i (upT t p))[j]'(by rw [List.length_set];exact hj))=sameK k (pU zone ts p)[j]:=λj hj=>by
   rw [List.getElem_set]
   split
   ·rename_i e;subst e;rw [F];exact⟨rfl,λ_=>rfl⟩
   ·exact⟨rfl,λ_=>rfl⟩
  rw [(e a B).1,(e b hb).2];exact A
def Dr (zone:Int) (l:List Play):List Tally:=l.foldl (stepT zone) []
theorem OM (zone:Int) (l:List Play) (p:Play):Dr zone (l++[p])=stepT zone (Dr zone l) p:=by unfold Dr;rw [List.foldl_append];rfl
theorem G5 {zone:Int} (A : -1440<=zone/\zone<=1440):∀(l:List Play),(∀x∈l,0<=x.At/\x.At<=345686399999)->(∀x∈l,1<=x.Long/\x.Long<=86400000)->TT l.length (Dr zone l):=by
 have key:∀(l:List Play) (n:Nat) (ts:List Tally),(∀x∈l,0<=x.At/\x.At<=345686399999)->(∀x∈l,1<=x.Long/\x.Long<=86400000)->TT n ts->TT (n+l.length) (l.foldl (stepT zone) ts):=by
  intro l
  induction l with
  | nil=>intro n ts _ _ h;exact h
  | cons p l B =>
   intro n ts j hl h
   have:=B (n+1) (stepT zone ts p) (λx o=>j x (by simp [o])) (λx o=>hl x (by simp [o])) (RG h (j p (by simp)) (hl p (by simp)) A)
   rw [List.foldl_cons,List.length_cons,show n+(l.length+1)=n+1+l.length by omega];exact this
 intro l j hl
 have:=key l 0 [] j hl ⟨by simp,λt f=>(by cases f),λt f=>(by cases f),λt f=>(by cases f),List.Pairwise.nil⟩
 rw [Nat.zero_add]at this;exact this
theorem Qg (a b:ByteArray):(a==b)=true↔a=b:=by
 obtain ⟨x⟩:=a
 obtain ⟨y⟩:=b
 refine⟨λh => ?_,λh => ?_⟩
 ·have h1:(x==y)=true:=h
  rw [eq_of_beq h1]
 ·cases h
  show (x==x)=true
  exact beq_self_eq_true x
theorem Pw {eq:Tally->Tally->Bool} {k:Tally} (he:∀a b:Tally,eq a b=(eqS a.Player b.Player&&(eqS a.Item b.Item&&(eqI a.Day b.Day&&(eqI a.Many b.Many&&(eqI a.Long b.Long&&true)))))) (f:k.Many=0/\k.Long=0):∀{es:List (Tally×Tally)},(∀e∈es,e.1=⟨e.2.Player,e.2.Item,e.2.Day,0,0⟩)->vW eq k es=ixT k (es.map (·.2))
 | [],_=>rfl
 | e::es,h=>by
  have h1:=h e (by simp)
  have hs:eq k e.1=sameK k e.2:=by
   rw [he,h1]
   simp only [f.1,f.2,eqI,eqS,beq_self_eq_true,Bool.and_true]
   unfold sameK
   have A:(k.Player==e.2.Player)=decide (e.2.Player=k.Player):=by rw [Bool.eq_iff_iff,Qg,decide_eq_true_eq];exact eq_comm
   have a2:(k.Item==e.2.Item)=decide (e.2.Item=k.Item):=by rw [Bool.eq_iff_iff,Qg,decide_eq_true_eq];exact eq_comm
   have a3:(k.Day==e.2.Day)=decide (e.2.Day=k.Day):=by rw [Bool.eq_iff_iff,beq_iff_eq,decide_eq_true_eq];exact eq_comm
   rw [A,a2,a3]
  have o:=Pw he f (es:=es) (λx j=>h x (List.mem_cons_of_mem _ j))
  simp only [vW,List.map_cons,ixT,hs,o]
def ES (es:List (Tally×Tally)) (ts:List Tally):Prop:=es.map (·.2)=ts/\∀e∈es,e.1=⟨e.2.Player,e.2.Item,e.2.Day,0,0⟩
theorem Q0 {zone:Int} (O : -1440<=zone/\zone<=1440) {es:List (Tally×Tally)} {ts:List Tally} {n:Nat} (hn:n<=100) (hE:ES es ts) (h:TT n ts) {p:Play} (R:0<=p.At/\p.At<=345686399999) (hl:1<=p.Long/\p.Long<=86400000) (k:Nat) :
  ∃I,lG zone k p es=some (.go I)/\ES I (stepT zone ts p):=by
 obtain ⟨i,t,M,i2,i3⟩:=Mv zone ts p
 have T:=M9 h R O
 obtain ⟨hil,hit⟩:=List.getElem?_eq_some_iff.1 i2
 have W:=List.mem_of_getElem? i2
 have m1:=T.many t W
 have m2:=T.lo t W
 obtain ⟨N,J⟩:=hE
 generalize A:(λ(a b:Tally)=>(eqS a.Player b.Player&&(eqS a.Item b.Item&&(eqI a.Day b.Day&&(eqI a.Many b.Many&&(eqI a.Long b.Long&&true))))))=eq
 have he:∀a b:Tally,eq a b=(eqS a.Player b.Player&&(eqS a.Item b.Item&&(eqI a.Day b.Day&&(eqI a.Many b.Many&&(eqI a.Long b.Long&&true))))):=λa b=>by rw [<- A]
 unfold lG
 rw [day_eq R O,ob_]
 simp only [A]
 have hK:(⟨p.Player,p.Item,Ox p zone,0,0⟩:Tally)=kT p zone:=rfl
 simp only [hK]
 have hv:∃v,(bif (vW eq (kT p zone) es).isNone then (RI (vW eq (kT p zone) es)).bind λ_=>some (es++[(kT p zone,kT p zone)])else some es)=some v/\v.map (·.2)=pU zone ts p/\∀e∈v,e.1=⟨e.2.Player,e.2.Item,e.2.Day,0,0⟩:=by
  rw [Pw he ⟨rfl,rfl⟩ J,N]
  unfold pU
  cases hi:ixT (kT p zone) ts with
  | none =>
   refine⟨_,rfl,by rw [List.map_append,N];rfl,λe f => ?_⟩
   rcases List.mem_append.1 f with f|f
   ·exact J e f
   ·rw [List.mem_singleton.1 f];rfl
  | some j=>exact⟨es,rfl,N,J⟩
 obtain ⟨v,v1,v2,v3⟩:=hv
 rw [v1,ob_,Pw he ⟨rfl,rfl⟩ v3,v2,M,ob_]
 have hvl:v.length=(pU zone ts p).length:=by rw [<- v2,List.length_map]
 obtain ⟨e,g1,B⟩:∃e,v[i]? = some e/\e.2=t:=by
  have:=i2
  rw [<- v2,List.getElem?_map,Option.map_eq_some_iff]at this
  exact this
 have g3:=v3 e (List.mem_of_getElem? g1)
 simp only [g1,ob_]
 have o:∀y:Tally,y.Player=e.2.Player->y.Item=e.2.Item->y.Day=e.2.Day->ES (v.set i (e.1,y)) ((pU zone ts p).set i y):=λy y1 Z y3=>by
  refine⟨by rw [List.map_set,v2],λx F => ?_⟩
  rcases List.mem_or_eq_of_mem_set F with F|F
  ·exact v3 x F
  ·rw [F];simp only [y1,Z,y3];exact g3
 obtain ⟨q1,q2⟩:=o ⟨e.2.Player,e.2.Item,e.2.Day,w64 (e.2.Many+1),e.2.Long⟩ rfl rfl rfl
 have L:vW eq (kT p zone) (v.set i (e.1,(⟨e.2.Player,e.2.Item,e.2.Day,w64 (e.2.Many+1),e.2.Long⟩:Tally)))=some i:=by
  rw [Pw he ⟨rfl,rfl⟩ q2,q1,PM (i:=i) (x:=t) (by rw [B];rfl) i2];exact M
 rw [L,ob_]
 simp only [set_atK (show i<v.length by omega),ob_,List.set_set]
 refine⟨_,rfl,?_⟩
 rw [NB M i2]
 have:=o (upT t p) (by rw [B];rfl) (by rw [B];rfl) (by rw [B];rfl)
 have Y:(⟨e.2.Player,e.2.Item,e.2.Day,w64 (e.2.Many+1),w64 (e.2.Long+p.Long)⟩:Tally)=upT t p:=by
  rw [B,dh (n:=t.Many+1) (by omega),dh (n:=t.Long+p.Long) (by omega)];rfl
 rw [Y];exact this
def ltT (a b:Tally):Prop:=lt a.Player b.Player\/a.Player=b.Player/\(lt a.Item b.Item\/a.Item=b.Item/\a.Day<b.Day)
def cT (a b:Tally):Int:=zS (AB a.Player b.Player) (zS (AB a.Item b.Item) (uC a.Day b.Day))
theorem JK {a b:ByteArray} (h:lt a b):a≠b:=λk=>by rw [k]at h;exact eZ _ h
theorem Sq {a b:Int}:uC a b<0↔a<b:=by 
 unfold uC
 split
 ·omega
 ·split <;> omega
theorem Ei {a b:Tally}:cT a b<0↔ltT a b:=by
 unfold cT zS ltT
 rcases jK a.Player b.Player with⟨h,e⟩|⟨h,e⟩|⟨h,e⟩
 ·rw [e];simp [h]
 ·rw [e,h]
  have o:¬lt b.Player b.Player:=eZ _
  rcases jK a.Item b.Item with⟨h2,j⟩|⟨h2,j⟩|⟨h2,j⟩
  ·rw [j];simp [h2]
  ·rw [j,h2]
   have f:¬lt b.Item b.Item:=eZ _
   simp [o,f,Sq]
  ·have f:¬lt a.Item b.Item:=λk=>eZ _ (lt_trans h2 k)
   have A:a.Item≠b.Item:=λk=>JK h2 k.symm
   rw [j];simp [o,f,A]
 ·have o:¬lt a.Player b.Player:=λk=>eZ _ (lt_trans h k)
  have f:a.Player≠b.Player:=λk=>JK h k.symm
  rw [e];simp [o,f]
theorem Jy {a b:Tally} (h:ltT a b) (k:ltT b a):False:=by
 rcases h with h|⟨h1,h⟩
 ·rcases k with k|⟨j,k⟩
  ·exact eZ _ (lt_trans h k)
  ·exact JK h j.symm
 ·rcases k with k|⟨j,k⟩
  ·exact JK k h1.symm
  ·rcases h with h|⟨h2,h⟩
   ·rcases k with k|⟨f,k⟩
    ·exact eZ _ (lt_trans h k)
    ·exact JK h f.symm
   ·rcases k with k|⟨f,k⟩
    ·exact JK k h2.symm
    ·omega
theorem ltT_cut {a b d:Tally} (h:ltT a d):ltT a b\/ltT b d:=by
 rcases Ko a.Player b.Player with p|p|p
 ·exact .inl (.inl p)
 ·rcases h with h|⟨h1,h⟩
  ·exact .inr (.inl (by rw [<- p];exact h))
  ·rcases Ko a.Item b.Item with q|q|q
   ·exact .inl (.inr ⟨p,.inl q⟩)
   ·rcases h with h|⟨h2,h⟩
    ·exact .inr (.inr ⟨p.symm.trans h1,.inl (by rw [<- q];exact h)⟩)
    ·rcases Int.lt_or_le a.Day b.Day with r|r
     ·exact .inl (.inr ⟨p,.inr ⟨q,r⟩⟩)
     ·exact .inr (.inr ⟨p.symm.trans h1,.inr ⟨q.symm.trans h2,by omega⟩⟩)
   ·rcases h with h|⟨h2,h⟩
    ·exact .inr (.inr ⟨p.symm.trans h1,.inl (lt_trans q h)⟩)
    ·exact .inr (.inr ⟨p.symm.trans h1,.inl (by rw [<- h2];exact q)⟩)
 ·rcases h with h|⟨h1,h⟩
  ·exact .inr (.inl (lt_trans p h))
  ·exact .inr (.inl (by rw [<- h1];exact p))
theorem ltT_tri {a b:Tally} (h:sameK a b=false):ltT a b\/ltT b a:=by
 have f:¬(b.Player=a.Player/\b.Item=a.Item/\b.Day=a.Day):=λk=>by
  have:=Bq.2 k;rw [h]at this;cases this
 rcases Ko a.Player b.Player with p|p|p
 ·exact .inl (.inl p)
 ·rcases Ko a.Item b.Item with q|q|q
  ·exact .inl (.inr ⟨p,.inl q⟩)
  ·rcases Int.lt_trichotomy a.Day b.Day with r|r|r
   ·exact .inl (.inr ⟨p,.inr ⟨q,r⟩⟩)
   ·exact absurd ⟨p.symm,q.symm,r.symm⟩ f
   ·exact .inr (.inr ⟨p.symm,.inr ⟨q.symm,r⟩⟩)
  ·exact .inr (.inr ⟨p.symm,.inl q⟩)
 ·exact .inr (.inl p)
theorem or3_eq (a b c:Int):kP [a,b,c]=some (zS a (zS b c)):=by
 unfold kP zS
 rw [jX (by simp)]
 have f:∀k (x:Int),nT k x ()=some (bif x != 0 then .ret x else .go ()):=λk x=>by
  unfold nT;cases x != 0 <;> rfl
 cases ha:a==0 with
 | false =>
  have h1:(a != 0)=true:=by rw [bne,ha];rfl
  simp only [forR,f,h1,cond_true,ob_,cond_false];rfl
 | true =>
  have h1:(a != 0)=false:=by rw [bne,ha];rfl
  cases hb:b==0 with
  | false =>
   have h2:(b != 0)=true:=by rw [bne,hb];rfl
   simp only [forR,f,h1,h2,cond_true,cond_false,ob_];rfl
  | true =>
   have h2:(b != 0)=false:=by rw [bne,hb];rfl
   cases hc:c==0 with
   | false =>
    have h:(c != 0)=true:=by rw [bne,hc];rfl
    simp only [forR,f,h1,h2,h,cond_true,cond_false,ob_];rfl
   | true =>
    have h:(c != 0)=false:=by rw [bne,hc];rfl
    have:c=0:=eq_of_beq hc
    subst this
    simp only [forR,f,h1,h2,h,cond_true,cond_false,ob_];rfl
theorem cmpC_eq (a b:Tally):mg a b=some (cT a b):=by
 unfold mg cT
 simp only [uB,sU,or3_eq,ob_]
theorem JE {ts r:List Tally} (f:ts.Pairwise (λa b=>sameK a b=false)) (j:r.Perm ts) (hs:r.Pairwise (λa b=>¬cT b a<0)):r.Pairwise ltT:=by
 have h1:r.Pairwise (λa b=>sameK a b=false):=(j.pairwise_iff (λ{a b} h=>by rw [Hl];exact h)).2 f
 refine (List.Pairwise.and h1 hs).imp (λ{a b} ⟨h,k⟩ => ?_)
 rw [Ei]at k
 rcases ltT_tri h with q|q
 ·exact q
 ·exact absurd q k
theorem len_ok:∀n:Nat,n<=12->∃k,kI (IntKind.u64.wrap (n:Int))=some k:=by
 have h:(List.range 13).all (λn=>(kI (IntKind.u64.wrap (n:Int))).isSome)=true:=by kernel_rfl
 intro n f
 have:=List.all_eq_true.1 h n (by simp;omega)
 exact Option.isSome_iff_exists.1 this
theorem sort12 {α:Type} {cmp:α->α->Option Int} (c:α->α->Int) {S:List α->Option (List α)} (I:∀x,S x=(kI (IntKind.u64.wrap (x.length:Int))).bind λo=>(OH cmp x 0 (x.length:Int) o).bind λf=>(fu f x).bind λ_=>some f)
  {xs:List α} (hl:xs.length<=12) (L:∀a∈xs,∀b∈xs,cmp a b=some (c a b)) (j:∀a b,c a b<0->¬c b a<0) (J:∀a b d,¬c a b<0->¬c b d<0->¬c a d<0) :
  ∃r,S xs=some r/\r.Perm xs/\r.Pairwise (λa b=>¬c b a<0):=by
 obtain ⟨k,N⟩:=len_ok xs.length hl
 obtain ⟨s,h1,h2,F⟩:=pdq_ok (cmp:=cmp) (le:=λa b=>¬c b a<0) (p:=(· ∈ xs)) (λa b M hb=>⟨c a b,L a M b hb,λh=>j a b h,λh=>h⟩) (λa b d h k=>J d b a k h) xs hl (λx B=>B) k
 refine⟨s,?_,h2,F⟩
 have A:fu s xs=some ():=by unfold fu;rw [if_pos h2.length_eq]
 rw [I,N,ob_,h1,ob_,A];rfl
theorem Ry {ts:List Tally} {n:Nat} (h:TT n ts) (hl:ts.length<=12):∃r,r.Perm ts/\∀f,f.Perm ts->bO f=some r:=by
 have j:∀a b,cT a b<0->¬cT b a<0:=λa b h k=>Jy (Ei.1 h) (Ei.1 k)
 have o:∀a b d,¬cT a b<0->¬cT b d<0->¬cT a d<0:=λa b d h k q=>by
  rcases ltT_cut (b:=b) (Ei.1 q)with e|e
  ·exact h (Ei.2 e)
  ·exact k (Ei.2 e)
 have F:∀xs:List Tally,xs.length<=12->∃r,bO xs=some r/\r.Perm xs/\r.Pairwise (λa b=>¬cT b a<0):=λxs I =>
  sort12 (cmp:=mg) (S:=bO) cT (λ_=>rfl) (xs:=xs) I (λa _ b _=>cmpC_eq a b) j o
 obtain ⟨r,N,A,L⟩:=F ts hl
 refine⟨r,A,λf ho => ?_⟩
 obtain ⟨O,M,B,J⟩:=F f (by rw [ho.length_eq];exact hl)
 rw [M]
 congr 1
 exact List.Perm.eq_of_pairwise (le:=ltT) (λx y _ _ h1 h2=>(Jy h1 h2).elim) (JE h.dif (B.trans ho) J) (JE h.dif A L) ((B.trans ho).trans A.symm)
theorem told {es:List (Tally×Tally)} (hl:es.length<=1000):∀(l:List (Nat×Tally)) (f:List Tally),f.length+l.length<=2000->(∀e∈l,e.1<es.length)->CW (λx s=>ko es x s) l f=some (.go (f++l.filterMap λe=>(es[e.1]?).map (·.2)))
 | [],f,_,_=>by simp [CW]
 | e::l,f,h,j=>by
  have he:=j e (by simp)
  simp only [List.length_cons]at h
  rw [CW]
  have:ko es e f=some (.go (f++[es[e.1].2])):=by
   unfold ko
   rw [List.getElem?_eq_getElem he,ob_,gN _ _ (by simp;omega)];rfl
  rw [this,ob_]
  show CW (λx s=>ko es x s) l (f++[es[e.1].2])=_
  rw [told hl l _ (by simp;omega) (λx o=>j x (by simp [o])),List.filterMap_cons,List.getElem?_eq_getElem he]
  simp
theorem Cg {α β:Type} {f:α->Option β} {g:α->β}:∀{l:List α},(∀e∈l,f e=some (g e))->l.filterMap f=l.map g
 | [],_=>rfl
 | e::l,h=>by
  rw [List.filterMap_cons,h e (by simp),List.map_cons,Cg (λx j=>h x (List.mem_cons_of_mem _ j))]
theorem O4 {l:List Play} (h:VP l) (hl:l.length<=12) {zone:Int} (I : -1440<=zone/\zone<=1440) (hv:Ot l=0):∃r,rG l zone=some (r,0)/\r.Perm (Dr zone l):=by
 have W:=G5 I l h.at_ h.lo
 have O:=W.len
 obtain ⟨r,R,Y⟩:=Ry W (by omega)
 have o:∀(k:Nat) (x:Play),l[k]? = some x->l.take (k+1)=l.take k++[x]:=λk x j=>by rw [List.take_add_one,j];rfl
 have A:∀k:Nat,TT (l.take k).length (Dr zone (l.take k)):=λk=>G5 I _ (λx j=>h.at_ x (List.mem_of_mem_take j)) (λx j=>h.lo x (List.mem_of_mem_take j))
 have N:∀k:Nat,(l.take k).length<=12:=λk=>by rw [List.length_take];omega
 refine⟨r,?_,R⟩
 ·unfold rG
  rw [Cf h.good (by omega),hv,ob_]
  simp only [bne_self_eq_false,cond_false,nk,rJ I,ob_]
  obtain ⟨es,e1,J⟩:=qA (body:=λk x s=>lG zone k x s) (λk s=>ES s (Dr zone (l.take k))) (xs:=l) (s:=([]:List (Tally×Tally))) (by omega) (λk x s j hI=>by
   have T:=List.mem_of_getElem? j
   have hkk:=N k
   obtain ⟨M,q1,q2⟩:=Q0 I (n:=(l.take k).length) (by omega) hI (A k) (h.at_ x T) (h.lo x T) k
   exact⟨M,q1,by rw [o k x j,OM];exact q2⟩) ⟨rfl,λe he=>by cases he⟩
  rw [List.take_length]at J
  rw [e1]
  simp only [ob_,thenC]
  have Z:es.length=(Dr zone l).length:=by rw [<- J.1,List.length_map]
  refine Un (λB L => ?_)
  have F:∀e∈B,e.1<es.length:=λe he=>by
   have:=L.mem_iff.1 he
   unfold pmL at this
   obtain ⟨i,hi,rfl⟩:=List.getElem_of_mem this
   simp only [List.length_mapIdx]at hi
   simp only [List.getElem_mapIdx];exact hi
  have hll:B.length=es.length:=by rw [L.length_eq];unfold pmL;simp
  rw [told (by omega) B [] (by simp only [List.length_nil];omega) F]
  simp only [ob_,thenC,List.nil_append]
  have f:(B.filterMap λe=>(es[e.1]?).map (·.2)).Perm (Dr zone l):=by
   refine (L.filterMap _).trans (List.Perm.of_eq ?_)
   rw [<- J.1]
   have hf:(pmL es).filterMap (λe=>(es[e.1]?).map (·.2))=(pmL es).map (λe=>((es[e.1]?).map (·.2)).getD ⟨⟨#[]⟩,⟨#[]⟩,0,0,0⟩):=by
    refine Cg (λe he => ?_)
    unfold pmL at he
    obtain ⟨i,hi,rfl⟩:=List.getElem_of_mem he
    simp only [List.length_mapIdx]at hi
    simp only [List.getElem_mapIdx,List.getElem?_eq_getElem hi,Option.map_some,Option.getD_some]
   rw [hf]
   unfold pmL
   refine List.ext_getElem (by simp) (λi h1 h2 => ?_)
   simp only [List.length_map,List.length_mapIdx]at h1
   simp only [List.getElem_map,List.getElem_mapIdx,List.getElem?_eq_getElem h1,Option.map_some,Option.getD_some]
  rw [Y _ f,ob_]
  have:fu r (B.filterMap λe=>(es[e.1]?).map (·.2))=some ():=by unfold fu;rw [if_pos (by rw [R.length_eq,f.length_eq])]
  rw [this];rfl
theorem maxJ_eq (a b:Int):jI a b=max a b:=by unfold jI;split <;> omega
def JI (h w:Play):Int:=max (h.At-w.At) (w.At-h.At)
theorem I4 {h w:Play} (h1:0<=h.At/\h.At<=345686399999) (h2:0<=w.At/\w.At<=345686399999):nu h.At w.At=some (JI h w):=by
 unfold nu JI
 rw [maxJ_eq,dh (n:=h.At-w.At) (by omega),dh (n:=w.At-h.At) (by omega)]
theorem innerE {f:List Play} (J:∀x∈f,0<=x.At/\x.At<=345686399999) {w:Play} (B:0<=w.At/\w.At<=345686399999) {tk:List Bool} (R:tk.length=f.length) (hl:f.length<=1000) (h:List Match) (most:Int) :
  ∃s:Int,forL f (-1) (λk x s=>jE (tk,h) w most f k x s)=some (.go s) /\ -1<=s/\s<f.length:=by
 have key:∀(k:Nat) (x:Play) (s:Int),f[k]? = some x->(-1<=s/\s<f.length)->∃I,jE (tk,h) w most f k x s=some (.go I)/\(-1<=I/\I<f.length):=λk x s A hs=>by
  have W:k<f.length:=(List.getElem?_eq_some_iff.1 A).1
  have M:=J x (List.mem_of_getElem? A)
  have N:tk[k]? = some (tk[k]'(by omega)):=List.getElem?_eq_getElem (by omega)
  generalize (tk[k]'(by omega))=t0 at N
  have O:((bif t0 then some true else bif (sNe x.Player w.Player)then some true else bif (sNe x.Item w.Item)then some true else (nu x.At w.At).bind λo=>some (decide (o>most))))=some (t0||(sNe x.Player w.Player||(sNe x.Item w.Item||decide (JI x w>most)))):=by
   rw [I4 M B]
   cases t0 <;> cases sNe x.Player w.Player <;> cases sNe x.Item w.Item <;> rfl
  unfold jE
  rw [yO (xs:=tk) (i:=(k:Int)) (by omega) (by omega),ob_,show 0+((k:Int)).toNat=k by omega,N,ob_,O,ob_]
  generalize T:(t0||(sNe x.Player w.Player||(sNe x.Item w.Item||decide (JI x w>most))))=L
  cases L with
  | true=>exact⟨s,rfl,hs⟩
  | false =>
   simp only [cond_false]
   by_cases hneg:s<0
   ·rw [decide_eq_true hneg]
    exact⟨(k:Int),rfl,by omega⟩
   ·rw [decide_eq_false hneg]
    obtain ⟨j,rfl⟩:∃j:Nat,s=j:=⟨s.toNat,by omega⟩
    have hj:f[j]? = some (f[j]'(by omega)):=List.getElem?_eq_getElem (by omega)
    have F:=J _ (List.getElem_mem (show j<f.length by omega))
    simp only [cond_false,l8,hj,ob_,I4 M B,I4 F B]
    cases decide (JI x w<JI (f[j]'(by omega)) w)with
    | true=>exact⟨(k:Int),rfl,by omega⟩
    | false=>exact⟨(j:Int),rfl,by omega⟩
 obtain ⟨s,a,b⟩:=qA (body:=λk x s=>jE (tk,h) w most f k x s) (λ_ s => -1<=s/\s<f.length) (xs:=f) (s:=(-1:Int)) (by omega) (λk x s A hs=>key k x s A hs) (by omega)
 exact⟨s,a,b⟩
theorem QV {f h:List Play} (T:VP f) (W:VP h) (L:fB f=some 0) (J:fB h=some 0) (M:f.length<=100) (hl:h.length<=100) {most:Int} (N:0<=most/\most<=86400000) :
  ∃j left,qg f h most=some (j,left,0)/\j.length<=100:=by
 obtain ⟨u,O,u2,u3⟩:=qA (body:=λk x s=>mI h most k x s) (λk s=>s.1.length=h.length/\s.2.length=k) (xs:=f) (s:=(List.replicate h.length false,([]:List Match))) (by omega) (λk x s o ⟨A,Y⟩=>by
  have F:=(List.getElem?_eq_some_iff.1 o).1
  obtain ⟨tk,j⟩:=s
  simp only []at A Y
  obtain ⟨m,I,a2,a3⟩:=innerE W.at_ (T.at_ x (List.mem_of_getElem? o)) A (by omega) j most
  unfold mI
  rw [I]
  simp only [ob_,thenC]
  by_cases hs:m>=0
  ·have ht:tk[0+m.toNat]? = some (tk[0+m.toNat]'(by omega)):=List.getElem?_eq_getElem (by omega)
   rw [decide_eq_true hs,cond_true,yO (xs:=tk) (i:=m) (by omega) (by omega),ob_,ht,ob_,ob_,gN _ _ (by simp;omega)]
   exact⟨_,rfl,by rw [List.length_set];exact A,by simp;omega⟩
  ·rw [decide_eq_false hs,cond_false,ob_,gN _ _ (by simp;omega)]
   exact⟨_,rfl,A,by simp;omega⟩) ⟨by simp,rfl⟩
 obtain ⟨left,R,_⟩:=qA (body:=λk x s=>mK k x s) (λk s=>s.length<=k) (xs:=u.1) (s:=([]:List Int)) (by omega) (λk x s o hs=>by
  have F:=(List.getElem?_eq_some_iff.1 o).1
  unfold mK
  cases x with
  | true=>exact⟨s,rfl,by omega⟩
  | false =>
   rw [Bool.not_false,cond_true,gN _ _ (by simp;omega)]
   exact⟨_,rfl,by simp;omega⟩) (by simp)
 refine⟨u.2,left,?_,by omega⟩
 unfold qg
 have e1:forL (List.range (2:Int).toNat) () (λk x s=>iV f h k x s)=some (.go ()):=by
  rw [jX (by simp)]
  have a0:iV f h 0 0 ()=some (.go ()):=by
   unfold iV
   have:idx ([f,h]:List (List Play)) ((0:Nat):Int)=some f:=rfl
   rw [this,ob_,L];rfl
  have I:iV f h (0+1) 1 ()=some (.go ()):=by
   unfold iV
   have:idx ([f,h]:List (List Play)) ((0+1:Nat):Int)=some h:=rfl
   rw [this,ob_,J];rfl
  have Z:List.range (2:Int).toNat=[0,1]:=rfl
  rw [Z]
  simp only [forR,a0,I,ob_]
 rw [e1]
 simp only [ob_,thenC,nk,rJ N,cond_false]
 have B:mkN (h.length:Int) 1=some h.length:=by
  unfold mkN
  rw [if_pos (by omega)];simp
 rw [B,ob_,O]
 simp only [ob_,thenC,R]
theorem rootIt:∀(m:Nat) (l:List ByteArray),l.length=m->0<m->m<=1000000->(∀x∈l,ShortK x)->∃n r,ShortK r/\iterN (λs=>lW s) n l=some (.go [r]):=by
 intro m
 induction m using Nat.strongRecOn with
 | ind m o =>
  intro l hl A B hs
  by_cases h1:1<m
  ·have h:decide ((l.length:Int)>1)=true:=decide_eq_true (by omega)
   obtain ⟨n,r,j,h2⟩:=o ((m+1) / 2) (by omega) (l9 l) (by rw [Ad,hl]) (by omega) (by omega) (xO l hs)
   refine⟨n+1,r,j,?_⟩
   have f:lW l=some (.go (l9 l)):=by
    unfold lW
    rw [h,Pb l (by omega) hs];rfl
   simp only [iterN,f,ob_];exact h2
  ·have h:decide ((l.length:Int)>1)=false:=decide_eq_false (by omega)
   obtain ⟨r,rfl⟩:∃r,l=[r]:=List.length_eq_one_iff.1 (by omega)
   refine⟨1,r,hs r (by simp),?_⟩
   simp only [iterN]
   unfold lW
   rw [h];rfl
theorem rootOk (l:List Log_) (h:∀x∈l,wM x) (hl:l.length<=1000000) (A:EU l=0):∃r,ShortK r/\vO l=some (r,0):=by
 unfold vO
 rw [PH l h hl,Px l h hl,A]
 simp only [ob_,bne_self_eq_false,cond_false]
 cases l with
 | nil =>
  refine⟨mk [],wy _,?_⟩
  have f:(((List.map Ce ([]:List Log_)).length:Int)==0)=true:=rfl
  rw [f]
  simp only [cond_true]
  rw [show (⟨#[]⟩:ByteArray)=BB [] from rfl,Sg [] (by simp)]
  simp only [ob_]
 | cons x l =>
  obtain ⟨n,r,o,h2⟩:=rootIt _ ((x::l).map Ce) rfl (by simp) (by simpa using hl) (λy j=>by obtain ⟨z,_,rfl⟩:=List.mem_map.1 j;exact Aw z)
  have f:(((List.map Ce (x::l)).length:Int)==0)=false:=by simp;omega
  refine⟨r,o,?_⟩
  rw [f]
  simp only [cond_false]
  rw [dB h2]
  rfl
theorem pathIt:∀(m:Nat) (l:List ByteArray) (i:Nat) (f:List ByteArray),l.length=m->0<m->m<=1000000->i<m->(∀x∈l,ShortK x)->(∀x∈f,ShortK x)->f.length+m<=10000000 ->
  ∃n s,iterN (λs=>kJ s) n (f,(i:Int),l)=some (.go s)/\(∀x∈s.1,ShortK x)/\s.1.length<=10000000:=by
 intro m
 induction m using Nat.strongRecOn with
 | ind m R =>
  intro l i f hl Y Z hi hs ho N
  by_cases h1:1<m
  ·have L:decide ((l.length:Int)>1)=true:=decide_eq_true (by omega)
   obtain ⟨j,hj,W⟩:=xor1 (i:=i) (by omega)
   have I:w64 ((i:Int).tdiv 2)=((i / 2:Nat):Int):=by
    rw [show (i:Int).tdiv 2=((i / 2:Nat):Int) from rfl,dh (by omega)]
   obtain ⟨h,J,M,T⟩:∃h:List ByteArray,(∀x∈h,ShortK x)/\h.length<=f.length+1/\(bif (decide ((j:Int)<(l.length:Int)))then (idx l (j:Int)).bind λB=>(kv f ([B]:List ByteArray)).bind λF=>some F else some f)=some h:=by
    by_cases hjl:j<l.length
    ·rw [decide_eq_true (show (j:Int)<(l.length:Int) by omega),LF hjl]
     simp only [cond_true,ob_]
     rw [gN _ _ (by simp;omega)]
     refine⟨f++[l[j]],λx A => ?_,by simp,rfl⟩
     rcases List.mem_append.1 A with A|A
     ·exact ho x A
     ·rw [List.mem_singleton.1 A];exact hs _ (List.getElem_mem _)
    ·rw [decide_eq_false (show ¬(j:Int)<(l.length:Int) by omega)]
     exact⟨f,ho,by omega,rfl⟩
   obtain ⟨n,s,h2,O⟩:=R ((m+1) / 2) (by omega) (l9 l) (i / 2) h (by rw [Ad,hl]) (by omega) (by omega) (by omega) (xO l hs) J (by omega)
   refine⟨n+1,s,?_,O⟩
   have o:kJ (f,(i:Int),l)=some (.go (h,((i / 2:Nat):Int),l9 l)):=by
    unfold kJ
    simp only [L,cond_true,hj,I]
    rw [T]
    simp only [ob_]
    rw [Pb l (by omega) hs];rfl
   simp only [iterN,o,ob_];exact h2
  ·have L:decide ((l.length:Int)>1)=false:=decide_eq_false (by omega)
   refine⟨1,(f,(i:Int),l),?_,ho,by show f.length<=_;omega⟩
   simp only [iterN]
   unfold kJ
   simp only [L,cond_false,ob_]
theorem pathOk (l:List Log_) (h:∀x∈l,wM x) (hl:l.length<=1000) (I:EU l=0):∃p e,(∀x∈p,ShortK x)/\p.length<=10000000/\vZ l 0=some (p,e):=by
 unfold vZ
 rw [PH l h (by omega),Px l h (by omega),I]
 simp only [ob_,nk,bne_self_eq_false,cond_false]
 rw [dh (by omega)]
 cases ho:l7 0 0 ((l.length:Int)-1)with
 | true=>exact⟨[],_,(λx o=>by cases o),by simp,rfl⟩
 | false =>
  have hb:=BF ho
  obtain ⟨n,s,h1,B,F⟩:=pathIt _ (l.map Ce) 0 [] rfl (by simp;omega) (by rw [List.length_map];omega) (by rw [List.length_map];omega) (λy A=>by obtain ⟨z,_,rfl⟩:=List.mem_map.1 A;exact Aw z) (λx o=>by cases o) (by rw [List.length_map];simp;omega)
  refine⟨s.1,0,B,F,?_⟩
  show ((dS (([]:List ByteArray),((0:Nat):Int),List.map Ce l) (λs=>kJ s)).bind λj=>thenC j (λf=>some (f.1,(0:Int))) (λ_=>none))=_
  rw [dB h1];rfl
theorem T9:∀(m:Nat) (i:Nat) (f:List ByteArray) (at_:ByteArray),m<=1000000->i<m->(∀x∈f,ShortK x)->ShortK at_->f.length<=100000000 ->
  (∃n s,iterN (λs=>eY s) n ((m:Int),(i:Int),f,at_)=some (.go s)) \/
  (∃n,iterN (λs=>eY s) n ((m:Int),(i:Int),f,at_)=some (.ret (false,0))):=by
 intro m
 induction m using Nat.strongRecOn with
 | ind m Y =>
  intro i f at_ hm hi T W F
  by_cases h1:1<m
  ·have L:decide ((m:Int)>1)=true:=decide_eq_true (by omega)
   obtain ⟨j,hj,hj2⟩:=xor1 (i:=i) (by omega)
   have B:w64 ((i:Int).tdiv 2)=((i / 2:Nat):Int):=by
    rw [show (i:Int).tdiv 2=((i / 2:Nat):Int) from rfl,dh (by omega)]
   have o:w64 ((w64 ((m:Int)+1)).tdiv 2)=(((m+1) / 2:Nat):Int):=by
    rw [dh (n:=(m:Int)+1) (by omega),show ((m:Int)+1).tdiv 2=(((m+1) / 2:Nat):Int) from rfl,dh (by omega)]
   by_cases hjm:m<=j
   ·have A:decide ((j:Int)>=(m:Int))=true:=decide_eq_true (by omega)
    have J:eY ((m:Int),(i:Int),f,at_)=some (.go ((((m+1) / 2:Nat):Int),((i / 2:Nat):Int),f,at_)):=by
     unfold eY
     simp only [L,cond_true,hj,A,B,o]
    rcases Y ((m+1) / 2) (by omega) (i / 2) f at_ (by omega) (by omega) T W F with⟨n,s,h2⟩|⟨n,h2⟩
    ·exact .inl ⟨n+1,s,by simp only [iterN,J,ob_];exact h2⟩
    ·exact .inr ⟨n+1,by simp only [iterN,J,ob_];exact h2⟩
   ·have A:decide ((j:Int)>=(m:Int))=false:=decide_eq_false (by omega)
    cases f with
    | nil =>
     refine .inr ⟨1,?_⟩
     simp only [iterN]
     unfold eY
     simp only [L,cond_true,hj,A,cond_false]
     rfl
    | cons p f =>
     have Z:(((p::f).length:Int)==0)=false:=by simp;omega
     have e1:idx (p::f) 0=some p:=rfl
     have e2:Nq (p::f) 1 ((p::f).length:Int)=some f:=by
      unfold Nq
      rw [if_pos ⟨by omega,by omega,by simp,by simp⟩]
      simp
     have N:=T p (by simp)
     have R:(i:Int).tmod 2=((i % 2:Nat):Int):=rfl
     obtain ⟨h,O,c1⟩:∃h:ByteArray,ShortK h/\(bif (((i % 2:Nat):Int)==1)then (nE p at_).bind λI=>some I else (nE at_ p).bind λM=>some M)=some h:=by
      rw [RZ N W,RZ W N]
      rcases Nat.mod_two_eq_zero_or_one i with h2|h2
      ·rw [h2];exact⟨_,Ac _ _,rfl⟩
      ·rw [h2];exact⟨_,Ac _ _,rfl⟩
     have J:eY ((m:Int),(i:Int),p::f,at_)=some (.go ((((m+1) / 2:Nat):Int),((i / 2:Nat):Int),f,h)):=by
      unfold eY
      simp only [L,cond_true,hj,A,cond_false,Z,e1,e2,R,ob_,B,o]
      rw [c1];rfl
     simp only [List.length_cons]at F
     rcases Y ((m+1) / 2) (by omega) (i / 2) f h (by omega) (by omega) (λx hx=>T x (List.mem_cons_of_mem _ hx)) O (by omega)with⟨n,s,h2⟩|⟨n,h2⟩
     ·exact .inl ⟨n+1,s,by simp only [iterN,J,ob_];exact h2⟩
     ·exact .inr ⟨n+1,by simp only [iterN,J,ob_];exact h2⟩
  ·have L:decide ((m:Int)>1)=false:=decide_eq_false (by omega)
   refine .inl ⟨1,((m:Int),(i:Int),f,at_),?_⟩
   simp only [iterN]
   unfold eY
   simp only [L,cond_false,ob_]
theorem Iw (f:ByteArray->Option Bool) (g:ByteArray->Bool):∀(l:List ByteArray) (k:Nat),(∀x∈l,f x=some (g x))->∃c,forR (λk x s=>bS f k x s) l k ()=some c /\
  (l.any g=true->∃j:Nat,c = .ret (j:Int))/\(l.any g=false->c = .go ())
 | [],k,h=>⟨_,rfl,(λh=>by cases h),λ_=>rfl⟩
 | x::l,k,h=>by
  obtain ⟨c,h1,h2,B⟩:=Iw f g l (k+1) (λy A=>h y (List.mem_cons_of_mem _ A))
  cases hg:g x with
  | true =>
   refine⟨.ret (k:Int),?_,λ_=>⟨k,rfl⟩,λh=>by simp [hg]at h⟩
   simp only [forR]
   unfold bS
   rw [h x (by simp),hg];rfl
  | false =>
   refine⟨c,?_,λh=>h2 (by simpa [hg]using h),λh=>B (by simpa [hg]using h)⟩
   have o:bS f k x ()=some (.go ()):=by
    unfold bS
    rw [h x (by simp),hg];rfl
   simp only [forR,o,ob_]
   exact h1
theorem Ja (l:List ByteArray) (f:ByteArray->Option Bool) (g:ByteArray->Bool) (hl:l.length<=1000000000) (h:∀x∈l,f x=some (g x)):dG l f=some (l.any g):=by
 unfold dG gH
 obtain ⟨c,h1,h2,o⟩:=Iw f g l 0 h
 rw [jX (by omega),h1]
 cases ha:l.any g with
 | true =>
  obtain ⟨j,rfl⟩:=h2 ha
  simp only [ob_,JP]
  have:decide ((j:Int)>=0)=true:=decide_eq_true (by omega)
  rw [this]
 | false =>
  rw [o ha];rfl
def J5 (h:ByteArray) (many i:Int) (y:Log_) (f:List ByteArray):Int :=
 bif !ug h then 3 else bif (l7 many 1 2000||l7 i 0 (many-1))then 1 else bif wJ y != 0 then wJ y else bif (!ug y.Sum||f.any λm => !ug m)then 3 else 0
theorem Sd (h:ByteArray) (many i:Int) (y:Log_) (f:List ByteArray) (F:ShortK h) (J : -1000000<=many/\many<=1000000) (j:wM y) (I:∀x∈f,ShortK x) (hl:f.length<=1000000000) :
  lN h many i y f=some (J5 h many i y f):=by
 have hc:=Ja f (λo=>kG o) (λm => !ug m) hl (λx B=>by
  unfold kG
  rw [Bn (I x B)];rfl)
 unfold lN J5
 rw [Bn F,Bn j.2.2.1,Fj j,hc,dh (by omega)]
 simp only [ob_,nk]
 generalize (f.any λm => !ug m)=A
 cases ug h <;> cases l7 many 1 2000 <;> cases l7 i 0 (many-1) <;> cases (wJ y != 0) <;> cases ug y.Sum <;> cases A <;> rfl
theorem SX (h:ByteArray) (many i:Int) (y:Log_) (f:List ByteArray) (B:ShortK h) (A : -1000000<=many/\many<=1000000) (j:wM y) (o:∀x∈f,ShortK x) (hl:f.length<=100000000) :
  ∃v,pz h many i y f=some v:=by
 unfold pz
 rw [Sd h many i y f B A j o (by omega),leafP j]
 simp only [ob_]
 by_cases hf:J5 h many i y f=0
 ·have hb:l7 many 1 2000=false/\l7 i 0 (many-1)=false:=by
   unfold J5 at hf
   cases h1:ug h <;> cases h2:l7 many 1 2000 <;> cases h3:l7 i 0 (many-1) <;> rw [h1,h2,h3]at hf <;> simp at hf ⊢
  have F:=BF hb.1
  have I:=BF hb.2
  have e:(J5 h many i y f != 0)=false:=by simp [hf]
  rw [e]
  simp only [cond_false]
  obtain ⟨m,rfl⟩:∃m:Nat,many=m:=⟨many.toNat,by omega⟩
  obtain ⟨k,rfl⟩:∃k:Nat,i=k:=⟨i.toNat,by omega⟩
  rcases T9 m k f (Ce y) (by omega) (by omega) o (Aw y) hl with⟨n,s,h1⟩|⟨n,h1⟩
  ·rw [dB h1]
   simp only [ob_,jf]
   cases ((s.2.2.1.length:Int)==0) <;> exact⟨_,rfl⟩
  ·rw [dB h1]
   exact⟨_,rfl⟩
 ·have e:(J5 h many i y f != 0)=true:=by simp [hf]
  rw [e]
  exact⟨_,rfl⟩
theorem cloneSE (l:List ByteArray) (hl:l.length<=1000000000):fQ l=some l:=by
 unfold fQ
 rw [gN [] l (by simpa using hl)]
 simp
def yf {σ ρ:Type} (s:σ) (body:σ->Option (Ctl σ ρ)):Option (Ctl σ ρ):=iterN body 300 s
def Le {α:Type} (a b:Option α):Prop:=∀r,a=some r->b=some r
theorem Le.refl {α:Type} (a:Option α):Le a a:=λ_ h=>h
theorem Le.bind {α β:Type} {a b:Option α} {f g:α->Option β} (h:Le a b) (k:∀x,Le (f x) (g x)):Le (a.bind f) (b.bind g):=λr e=>by
 obtain ⟨x,h1,h2⟩:=Option.bind_eq_some_iff.1 e
 rw [h x h1];exact k x r h2
theorem Le.cond {α:Type} {a b c d:Option α} {t:Bool} (h:Le a c) (k:Le b d):Le (bif t then a else b) (bif t then c else d):=by
 cases t
 ·exact k
 ·exact h
theorem Le.thenC {σ ρ τ:Type} {o:Ctl σ ρ} {f j:σ->Option τ} {g A:ρ->Option τ} (h:∀x,Le (f x) (j x)) (k:∀x,Le (g x) (A x)):Le (Go.Eng.thenC o f g) (Go.Eng.thenC o j A):=by
 cases o
 ·exact h _
 ·exact Le.refl _
 ·exact k _
theorem Le.forR {α σ ρ:Type} {b b':Nat->α->σ->Option (Ctl σ ρ)} (h:∀k x s,Le (b k x s) (b' k x s)):∀(xs:List α) (k:Nat) (s:σ),Le (Go.Eng.forR b xs k s) (Go.Eng.forR b' xs k s)
 | [],k,s=>Le.refl _
 | x::xs,k,s=>Le.bind (h k x s) (λc=>by
   cases c with
   | go f=>exact Le.forR h xs _ _
   | brk f=>exact Le.refl _
   | ret r=>exact Le.refl _)
theorem Le.forL {α σ ρ:Type} {xs:List α} {s:σ} {b b':Nat->α->σ->Option (Ctl σ ρ)} (h:∀k x s,Le (b k x s) (b' k x s)):Le (Go.Eng.forL xs s b) (Go.Eng.forL xs s b'):=by
 unfold Go.Eng.forL
 split
 ·exact Le.forR h xs 0 s
 ·exact Le.refl _
theorem Le.iterN {σ ρ:Type} {b b':σ->Option (Ctl σ ρ)} (h:∀s,Le (b s) (b' s)):∀(n:Nat) (s:σ),Le (Go.Eng.iterN b n s) (Go.Eng.iterN b' n s)
 | 0,s=>Le.refl _
 | n+1,s=>Le.bind (h s) (λc=>by
   cases c with
   | go f=>exact Le.iterN h n f
   | brk f=>exact Le.refl _
   | ret r=>exact Le.refl _)
theorem Le.loop {σ ρ:Type} {s:σ} {b b':σ->Option (Ctl σ ρ)} (h:∀s,Le (b s) (b' s)):Le (yf s b) (dS s b'):=λr e=>dB (Le.iterN h _ _ r e)
def Rw (x:Int):List Int->List Int
 | []=>[x]
 | y::l=>bif decide (x<=y)then x::y::l else y::Rw x l
def GH:List Int->List Int
 | []=>[]
 | x::l=>Rw x (GH l)
theorem El (x:Int):∀l,(Rw x l).Perm (x::l)
 | [] => .refl _
 | y::l=>by
  unfold Rw
  cases decide (x<=y)with
  | true=>exact .refl _
  | false=>exact ((El x l).cons y).trans (List.Perm.swap x y l)
theorem ET:∀l,(GH l).Perm l
 | [] => .refl _
 | x::l=>(El x _).trans ((ET l).cons x)
theorem EO (x:Int):∀l:List Int,l.Pairwise (· <= ·)->(Rw x l).Pairwise (· <= ·)
 | [],_=>List.pairwise_singleton _ _
 | y::l,h=>by
  obtain ⟨h1,h2⟩:=List.pairwise_cons.1 h
  unfold Rw
  by_cases hx:x<=y
  ·rw [decide_eq_true hx,cond_true]
   exact List.pairwise_cons.2 ⟨λz f=>by
    rcases List.mem_cons.1 f with rfl|f
    ·exact hx
    ·exact Int.le_trans hx (h1 z f),h⟩
  ·rw [decide_eq_false hx,cond_false]
   exact List.pairwise_cons.2 ⟨λz f=>by
    rcases List.mem_cons.1 ((El x l).mem_iff.1 f)with rfl|f
    ·omega
    ·exact h1 z f,EO x l h2⟩
theorem BU:∀l,(GH l).Pairwise (· <= ·)
 | [] => .nil
 | x::l=>EO x _ (BU l)
theorem QU (l:List Int):l.mergeSort (λx y=>decide (x<=y))=GH l:=by
 refine List.Perm.eq_of_pairwise (le:=(· <= ·)) (λa b _ _ h1 h2=>Int.le_antisymm h1 h2) ?_ (BU l) ((List.mergeSort_perm l _).trans (ET l).symm)
 have:=List.pairwise_mergeSort (le:=λ(x y:Int)=>decide (x<=y)) (λa b c=>by simp;omega) (λa b=>by simp;omega) l
 exact this.imp (by simp)
def Tg (l:List Int):Option (List Int):=bif Nat.ble l.length 1000 then some (GH l)else none
theorem Si (l:List Int):Le (Tg l) (dw l):=λr h=>by
 unfold Tg at h
 cases hb:Nat.ble l.length 1000 with
 | false=>rw [hb]at h;cases h
 | true =>
  rw [hb,cond_true]at h
  have:=Nat.le_of_ble_eq_true hb
  unfold dw JL
  rw [if_pos (by omega),QU];exact h
set_option maxRecDepth 100000
def jH (f:ByteArray):Option (Bool) :=
 (yf 0 (λs=>lM f s)).bind λh=>thenC h (λo=>(bif (sNe f (⟨#[]⟩:ByteArray))then some (decide ((f.size:Int)<=40))else some false).bind λj=>some j) (λr=>some r)
theorem lK (f:ByteArray):Le (jH f) (dX f):=by
 unfold jH dX
 repeat' (with_reducible first|exact Le.refl _|refine Le.loop (λ_=>?_)|refine Le.thenC (λ_=>?_) (λ_=>?_)|refine Le.cond ?_ ?_|refine Le.bind ?_ (λ_=>?_))
def jS (h:(List Int)) (j:Int):Option (Ctl (Int) ((List Int))) :=
 bif (decide (j<(h.length:Int)))then (inR j h).bind λ_=>(h[(0+(j).toNat)]?).bind λo=>(inR (w64 (j-1)) h).bind λ_=>(h[(0+((w64 (j-1))).toNat)]?).bind λB=>bif (o==B)then (neL h).bind λ_=>(xX h j (h.length:Int)).bind λ_=>(yf (h,j,1) (λs=>iE h j s)).bind λA=>thenC A (λf=>(xX f.1 f.2.1 (f.1.length:Int)).bind λ_=>(xX (f.1.take ((f.2.1).toNat)++List.replicate (((f.1.length:Int)).toNat-(f.2.1).toNat) 0++f.1.drop (((f.2.1).toNat)+(((f.1.length:Int)).toNat-(f.2.1).toNat))) 0 f.2.1).bind λ_=>some (.ret (FI (f.1.take ((f.2.1).toNat)++List.replicate (((f.1.length:Int)).toNat-(f.2.1).toNat) 0++f.1.drop (((f.2.1).toNat)+(((f.1.length:Int)).toNat-(f.2.1).toNat))) 0 ((f.2.1).toNat)))) (λ_=>none)else some (.go (w64 (j+1)))else some (.brk j)
theorem sD (h:(List Int)) (f:Int):Le (jS h f) (fw h f):=by
 unfold jS fw
 repeat' (with_reducible first|exact Le.refl _|refine Le.loop (λ_=>?_)|refine Le.thenC (λ_=>?_) (λ_=>?_)|refine Le.cond ?_ ?_|refine Le.bind ?_ (λ_=>?_))
def kM (f:(List Int)):Option ((List Int)) :=
 bif (decide ((f.length:Int)<2))then some f else (yf 1 (λs=>jS f s)).bind λh=>thenC h (λj=>some f) (λr=>some r)
theorem uV (f:(List Int)):Le (kM f) (gJ f):=by
 unfold kM gJ
 repeat' (with_reducible first|exact Le.refl _|exact sD _ _|refine Le.loop (λ_=>?_)|refine Le.thenC (λ_=>?_) (λ_=>?_)|refine Le.cond ?_ ?_|refine Le.bind ?_ (λ_=>?_))
def dR (o:Int) (A:Int) (f:(List Run)×Int):Option (Ctl ((List Run)×Int) (Unit)) :=
 bif (decide (f.2<o))then (yf (f.1,f.2) (λs=>di A s)).bind λh=>thenC h (λj=>some (.go (j.1,(w64 (f.2+1))))) (λ_=>none)else some (.brk (f.1,f.2))
theorem lS (h:Int) (j:Int) (f:(List Run)×Int):Le (dR h j f) (bQ h j f):=by
 unfold dR bQ
 repeat' (with_reducible first|exact Le.refl _|refine Le.loop (λ_=>?_)|refine Le.thenC (λ_=>?_) (λ_=>?_)|refine Le.cond ?_ ?_|refine Le.bind ?_ (λ_=>?_))
def eQ (f:(List Run)) (h:Int) (A:Int):Option ((List Run)) :=
 (yf (f,(w64 (h+1))) (λs=>dR A h s)).bind λo=>thenC o (λj=>some j.1) (λ_=>none)
theorem mq (f:(List Run)) (j:Int) (h:Int):Le (eQ f j h) (bW f j h):=by
 unfold eQ bW
 repeat' (with_reducible first|exact Le.refl _|exact lS _ _ _|refine Le.loop (λ_=>?_)|refine Le.thenC (λ_=>?_) (λ_=>?_)|refine Le.bind ?_ (λ_=>?_))
def fG (o:Int) (A:Int) (f:(List Run)) (h:Int) (B:Unit):Option (Ctl (Unit) ((List Run))) :=
 bif (decide ((w64 (o-A))<=12))then (eQ f A o).bind λj=>(fu j f).bind λ_=>some (.ret j)else bif (h==0)then none else none
theorem nH (o:Int) (A:Int) (h:(List Run)) (f:Int) (j:Unit):Le (fG o A h f j) (cZ o A h f j):=by
 unfold fG cZ
 repeat' (with_reducible first|exact Le.refl _|exact mq _ _ _|refine Le.cond ?_ ?_|refine Le.bind ?_ (λ_=>?_))
def gU (f:(List Run)) (A:Int) (o:Int) (h:Int):Option ((List Run)) :=
 (yf () (λs=>fG o A f h s)).bind λj=>thenC j (λB=>some f) (λr=>some r)
theorem oG (h:(List Run)) (o:Int) (j:Int) (f:Int):Le (gU h o j f) (dx h o j f):=by
 unfold gU dx
 repeat' (with_reducible first|exact Le.refl _|exact nH _ _ _ _ _|refine Le.loop (λ_=>?_)|refine Le.thenC (λ_=>?_) (λ_=>?_)|refine Le.bind ?_ (λ_=>?_))
def eX (f:(List Run)):Option ((List Run)) :=
 (kI (IntKind.u64.wrap (f.length:Int))).bind λj=>(gU f 0 (f.length:Int) j).bind λh=>(fu h f).bind λ_=>some h
theorem mY (f:(List Run)):Le (eX f) (bX f):=by
 unfold eX bX
 repeat' (with_reducible first|exact Le.refl _|exact oG _ _ _ _|refine Le.bind ?_ (λ_=>?_))
def vv (F:(List Rect)) (B:Int):Option ((List Run)) :=
 (forL F ([]:List Run) (λk x s=>rO B k x s)).bind λh=>thenC h (λo=>(eX o).bind λf=>(fu f o).bind λ_=>(forL f ([]:List Run) (λk x s=>rW k x s)).bind λj=>thenC j (λA=>some A) (λ_=>none)) (λ_=>none)
theorem Ih (f:(List Rect)) (h:Int):Le (vv f h) (qR f h):=by
 unfold vv qR
 repeat' (with_reducible first|exact Le.refl _|exact mY _|refine Le.forL (λ_ _ _=>?_)|refine Le.thenC (λ_=>?_) (λ_=>?_)|refine Le.bind ?_ (λ_=>?_))
def uG (I:(List Run)) (L:Nat) (h:Run) (F:(List Run)×Int):Option (Ctl ((List Run)×Int) (Unit)) :=
 (yf F.2 (λs=>rU I h s)).bind λo=>thenC o (λj=>(yf (F.1,j,h.f_from) (λs=>rT I h s)).bind λB=>thenC B (λf=>(bif (decide (f.2.2<h.f_to))then (kv f.1 ([(⟨f.2.2,h.f_to⟩:Run)]:List Run)).bind λA=>some A else some f.1).bind λJ=>some (.go (J,j))) (λ_=>none)) (λ_=>none)
theorem Dk (j:(List Run)) (h:Nat) (o:Run) (f:(List Run)×Int):Le (uG j h o f) (oz j h o f):=by
 unfold uG oz
 repeat' (with_reducible first|exact Le.refl _|refine Le.loop (λ_=>?_)|refine Le.thenC (λ_=>?_) (λ_=>?_)|refine Le.cond ?_ ?_|refine Le.bind ?_ (λ_=>?_))
def zl (o:(List Run)) (j:(List Run)):Option ((List Run)) :=
 (forL o (([]:List Run),0) (λk x s=>uG j k x s)).bind λf=>thenC f (λh=>some h.1) (λ_=>none)
theorem GM (f:(List Run)) (h:(List Run)):Le (zl f h) (uz f h):=by
 unfold zl uz
 repeat' (with_reducible first|exact Le.refl _|exact Dk _ _ _ _|refine Le.forL (λ_ _ _=>?_)|refine Le.thenC (λ_=>?_) (λ_=>?_)|refine Le.bind ?_ (λ_=>?_))
def rX (I:(List Int)) (O:(List Rect)) (N:(List Rect)) (A:Nat) (h:Int) (f:(List Rect)×(List Run)×Int):Option (Ctl ((List Rect)×(List Run)×Int) (Unit)) :=
 (bif (decide ((w64 ((A:Int)+1))<(I.length:Int)))then (vv O h).bind λo=>(vv N h).bind λB=>(zl o B).bind λL=>some L else some ([]:List Run)).bind λj=>(eT f.2.1 j).bind λJ=>bif J then some (.go (f.1,f.2.1,f.2.2))else (forL f.2.1 f.1 (λk x s=>pK f h k x s)).bind λF=>thenC F (λM=>some (.go (M,j,h))) (λ_=>none)
theorem BJ (o:(List Int)) (B:(List Rect)) (A:(List Rect)) (j:Nat) (h:Int) (f:(List Rect)×(List Run)×Int):Le (rX o B A j h f) (mO o B A j h f):=by
 unfold rX mO
 repeat' (with_reducible first|exact Le.refl _|exact Ih _ _|exact GM _ _|refine Le.forL (λ_ _ _=>?_)|refine Le.thenC (λ_=>?_) (λ_=>?_)|refine Le.cond ?_ ?_|refine Le.bind ?_ (λ_=>?_))
def wE (B:(List Rect)) (A:(List Rect)):Option ((List Rect)) :=
 (fP ([B,A]:List (List Rect))).bind λJ=>(forL J ([]:List Int) (λk x s=>pI k x s)).bind λI=>thenC I (λh=>(Tg h).bind λf=>(fu f h).bind λ_=>(kM f).bind λj=>(forL j (([]:List Rect),([]:List Run),0) (λk x s=>rX j B A k x s)).bind λF=>thenC F (λo=>some o.1) (λ_=>none)) (λ_=>none)
theorem EN (f:(List Rect)) (h:(List Rect)):Le (wE f h) (qj f h):=by
 unfold wE qj
 repeat' (with_reducible first|exact Le.refl _|exact uV _|exact BJ _ _ _ _ _ _|exact Si _|refine Le.forL (λ_ _ _=>?_)|refine Le.thenC (λ_=>?_) (λ_=>?_)|refine Le.bind ?_ (λ_=>?_))
def zf (f:(List Rect)):Option (Int×Int) :=
 (om f).bind λh=>bif (h != 0)then some (0,h)else (wE f ([]:List Rect)).bind λj=>(xx j).bind λo=>some (o,0)
theorem H6 (f:(List Rect)):Le (zf f) (uu f):=by
 unfold zf uu
 repeat' (with_reducible first|exact Le.refl _|exact EN _ _|refine Le.cond ?_ ?_|refine Le.bind ?_ (λ_=>?_))
def p9 (B:(List ByteArray)) (f:Nat) (o:ByteArray) (F:Unit):Option (Ctl (Unit) (Int)) :=
 (jH o).bind λA=>bif (!A)then some (.ret 5)else (bif (decide ((f:Int)>0))then (idx B (w64 ((f:Int)-1))).bind λh=>some (sLe o h)else some false).bind λj=>bif j then some (.ret 7)else some (.go ())
theorem zR (j:(List ByteArray)) (f:Nat) (h:ByteArray) (o:Unit):Le (p9 j f h o) (lq j f h o):=by
 unfold p9 lq
 repeat' (with_reducible first|exact Le.refl _|exact lK _|refine Le.cond ?_ ?_|refine Le.bind ?_ (λ_=>?_))
def o8 (h:(List ByteArray)):Option (Int) :=
 (forL h () (λk x s=>p9 h k x s)).bind λf=>thenC f (λj=>some 0) (λr=>some r)
theorem wC (f:(List ByteArray)):Le (o8 f) (lD f):=by
 unfold o8 lD
 repeat' (with_reducible first|exact Le.refl _|exact zR _ _ _ _|refine Le.forL (λ_ _ _=>?_)|refine Le.thenC (λ_=>?_) (λ_=>?_)|refine Le.bind ?_ (λ_=>?_))
def pX (f:(List ByteArray)):Option (Int) :=
 bif (decide ((f.length:Int)>20))then some 2 else (o8 f).bind λh=>some h
theorem zY (f:(List ByteArray)):Le (pX f) (lh f):=by
 unfold pX lh
 repeat' (with_reducible first|exact Le.refl _|exact wC _|refine Le.cond ?_ ?_|refine Le.bind ?_ (λ_=>?_))
def o6 (f:Entry):Option (Int) :=
 ((jH f.Key).bind λO=>bif (!O)then some true else (jH f.Item).bind λR=>some (!R)).bind λT=>bif T then some 5 else ((aS f.Version 0 1000000).bind λN=>bif N then some true else (aS f.First 0 f.Last).bind λo=>bif o then some true else bif (decide (f.Last>4000))then some true else (aS f.Every 1 400).bind λj=>bif j then some true else (aS f.Days 1 127).bind λJ=>some J).bind λI=>bif I then some 1 else (lQ f.Except).bind λh=>bif (h != 0)then some h else ((aS f.From 0 1439).bind λL=>bif L then some true else (aS f.To 0 1439).bind λM=>bif M then some true else (aS f.Prio 0 9).bind λF=>some F).bind λB=>bif B then some 1 else (pX f.Tags).bind λA=>some A
theorem yX (f:Entry):Le (o6 f) (kC f):=by
 unfold o6 kC
 repeat' (with_reducible first|exact Le.refl _|exact lK _|exact zY _|refine Le.cond ?_ ?_|refine Le.bind ?_ (λ_=>?_))
def lC (B:(List Entry)) (j:Nat) (o:Entry) (F:Unit):Option (Ctl (Unit) (Int)) :=
 (o6 o).bind λf=>bif (f != 0)then some (.ret f)else (bif (decide ((j:Int)>0))then (idx B (w64 ((j:Int)-1))).bind λA=>some (sLe o.Key A.Key)else some false).bind λh=>bif h then some (.ret 7)else some (.go ())
theorem vw (j:(List Entry)) (h:Nat) (o:Entry) (f:Unit):Le (lC j h o f) (iy j h o f):=by
 unfold lC iy
 repeat' (with_reducible first|exact Le.refl _|exact yX _|refine Le.cond ?_ ?_|refine Le.bind ?_ (λ_=>?_))
def nA (f:(List Entry)):Option (Int) :=
 bif (decide ((f.length:Int)>200))then some 2 else (forL f () (λk x s=>lC f k x s)).bind λh=>thenC h (λj=>some 0) (λr=>some r)
theorem xL (f:(List Entry)):Le (nA f) (jB f):=by
 unfold nA jB
 repeat' (with_reducible first|exact Le.refl _|exact vw _ _ _ _|refine Le.forL (λ_ _ _=>?_)|refine Le.thenC (λ_=>?_) (λ_=>?_)|refine Le.cond ?_ ?_|refine Le.bind ?_ (λ_=>?_))
def ku (h:(List Int)) (f:Int):Option (Int×Bool) :=
 (yf (0,(h.length:Int)) (λs=>gp h f s)).bind λI=>thenC I (λj=>(bif (decide (j.1<(h.length:Int)))then (idx h j.1).bind λB=>bif (B==f)then some true else (idx h j.1).bind λA=>(kL A).bind λJ=>bif J then (kL f).bind λF=>some F else some false else some false).bind λo=>some (j.1,o)) (λ_=>none)
theorem tu (h:(List Int)) (f:Int):Le (ku h f) (fE h f):=by
 unfold ku fE
 repeat' (with_reducible first|exact Le.refl _|refine Le.loop (λ_=>?_)|refine Le.thenC (λ_=>?_) (λ_=>?_)|refine Le.cond ?_ ?_|refine Le.bind ?_ (λ_=>?_))
def uN (f:Entry) (h:Int):Option (Bool) :=
 ((aS h f.First f.Last).bind λF=>bif F then some true else (Nk .i64 (w64 (h-f.First)) f.Every).bind λB=>bif (B != 0)then some true else (shlO .i64 1 (h.tmod 7)).bind λo=>some ((EF .i64 f.Days o)==0)).bind λA=>bif A then some false else (ku f.Except h).bind λj=>some (!j.2)
theorem C9 (f:Entry) (h:Int):Le (uN f h) (oW f h):=by
 unfold uN oW
 repeat' (with_reducible first|exact Le.refl _|exact tu _ _|refine Le.cond ?_ ?_|refine Le.bind ?_ (λ_=>?_))
def qP (j:Window) (h:Int) (A:Entry) (f:(List Window)×Int):Option (Ctl ((List Window)×Int) (Unit)) :=
 bif (decide (f.2<=(K5 (w64 ((w64 ((w64 (j.To+(w64 (h*60000)))).tdiv 86400000))+1)) A.Last)))then (uN A f.2).bind λJ=>bif (!J)then some (.go (f.1,(w64 (f.2+1))))else (qF A h f.2).bind λo=>(bif (decide (o.From<j.To))then some (decide (o.To>j.From))else some false).bind λI=>(bif I then (kv f.1 ([o]:List Window)).bind λF=>some F else some f.1).bind λB=>some (.go (B,(w64 (f.2+1))))else some (.brk (f.1,f.2))
theorem Aj (h:Window) (f:Int) (o:Entry) (j:(List Window)×Int):Le (qP h f o j) (lJ h f o j):=by
 unfold qP lJ
 repeat' (with_reducible first|exact Le.refl _|exact C9 _ _|refine Le.cond ?_ ?_|refine Le.bind ?_ (λ_=>?_))
def uS (j:Entry) (f:Int) (h:Window):Option ((List Window)) :=
 (bif j.Gone then some true else some (decide (h.From>=h.To))).bind λB=>bif B then some ([]:(List Window))else (yf (([]:List Window),(jI (w64 ((w64 ((w64 (h.From+(w64 (f*60000)))).tdiv 86400000))-2)) j.First)) (λs=>qP h f j s)).bind λo=>thenC o (λA=>some A.1) (λ_=>none)
theorem DK (j:Entry) (f:Int) (h:Window):Le (uS j f h) (oD j f h):=by
 unfold uS oD
 repeat' (with_reducible first|exact Le.refl _|exact Aj _ _ _ _|refine Le.loop (λ_=>?_)|refine Le.thenC (λ_=>?_) (λ_=>?_)|refine Le.cond ?_ ?_|refine Le.bind ?_ (λ_=>?_))
def uJ (B:Entry) (f:Int) (h:Window):Option ((List Window)×Int) :=
 (nA ([B]:List Entry)).bind λI=>bif (I != 0)then some (([]:(List Window)),I)else (aS f (-1440) 1440).bind λJ=>bif J then some (([]:(List Window)),1)else (lU h).bind λo=>bif (o != 0)then some (([]:(List Window)),o)else (uS B f h).bind λj=>(forL (List.range ((j.length:Int)).toNat) j (λk x s=>nY h k x s)).bind λA=>thenC A (λF=>some (F,0)) (λ_=>none)
theorem Di (j:Entry) (f:Int) (h:Window):Le (uJ j f h) (oM j f h):=by
 unfold uJ oM
 repeat' (with_reducible first|exact Le.refl _|exact xL _|exact DK _ _ _|refine Le.forL (λ_ _ _=>?_)|refine Le.thenC (λ_=>?_) (λ_=>?_)|refine Le.cond ?_ ?_|refine Le.bind ?_ (λ_=>?_))
def qN (f:(List ByteArray)):Option (Int) :=
 bif (decide ((f.length:Int)>20))then some 2 else (o8 f).bind λh=>some h
theorem Aq (f:(List ByteArray)):Le (qN f) (lT f):=by
 unfold qN lT
 repeat' (with_reducible first|exact Le.refl _|exact wC _|refine Le.cond ?_ ?_|refine Le.bind ?_ (λ_=>?_))
def lc (R:(List Campaign)) (B:Nat) (f:Campaign) (T:Unit):Option (Ctl (Unit) (Int)) :=
 ((jH f.Key).bind λo=>bif (!o)then some true else bif (sNe f.Class (⟨#[]⟩:ByteArray))then (jH f.Class).bind λj=>some (!j)else some false).bind λN=>bif N then some (.ret 5)else (bif (decide ((B:Int)>0))then (idx R (w64 ((B:Int)-1))).bind λO=>some (sLe f.Key O.Key)else some false).bind λJ=>bif J then some (.ret 7)else ((rV f.Time).bind λL=>bif (!L)then some true else (aS f.Goal 0 1000000).bind λM=>bif M then some true else (aS f.Most 0 1000000).bind λI=>bif I then some true else (aS f.Cents 0 1000000000).bind λA=>some A).bind λF=>bif F then some (.ret 1)else (qN f.Tags).bind λh=>bif (h != 0)then some (.ret h)else some (.go ())
theorem uU (j:(List Campaign)) (h:Nat) (o:Campaign) (f:Unit):Le (lc j h o f) (gL j h o f):=by
 unfold lc gL
 repeat' (with_reducible first|exact Le.refl _|exact lK _|exact Aq _|refine Le.cond ?_ ?_|refine Le.bind ?_ (λ_=>?_))
def mV (f:(List Campaign)):Option (Int) :=
 bif (decide ((f.length:Int)>30))then some 2 else (forL f () (λk x s=>lc f k x s)).bind λh=>thenC h (λj=>some 0) (λr=>some r)
theorem xq (f:(List Campaign)):Le (mV f) (jl f):=by
 unfold mV jl
 repeat' (with_reducible first|exact Le.refl _|exact uU _ _ _ _|refine Le.forL (λ_ _ _=>?_)|refine Le.thenC (λ_=>?_) (λ_=>?_)|refine Le.cond ?_ ?_|refine Le.bind ?_ (λ_=>?_))
def yS (h:Campaign) (f:Int):Option (Int×Int) :=
 (mV ([h]:List Campaign)).bind λo=>bif (o != 0)then some (0,o)else (cK f).bind λA=>bif (!A)then some (0,1)else (xH h f).bind λj=>some (j,0)
theorem Ib (h:Campaign) (f:Int):Le (yS h f) (uF h f):=by
 unfold yS uF
 repeat' (with_reducible first|exact Le.refl _|exact xq _|refine Le.cond ?_ ?_|refine Le.bind ?_ (λ_=>?_))
def oK (j:(List Beat)) (h:Nat) (f:Beat) (R:Unit):Option (Ctl (Unit) (Int)) :=
 (jH f.Player).bind λO=>bif (!O)then some (.ret 5)else ((cK f.At).bind λI=>bif (!I)then some true else (aS f.Clock 0 345686399999).bind λA=>some A).bind λL=>bif L then some (.ret 1)else (bif (decide ((h:Int)>0))then (idx j (w64 ((h:Int)-1))).bind λN=>(jD N f).bind λo=>some (decide (o>=0))else some false).bind λJ=>bif J then some (.ret 7)else (bif (decide ((h:Int)>0))then (idx j (w64 ((h:Int)-1))).bind λB=>bif (sEq f.Player B.Player)then (idx j (w64 ((h:Int)-1))).bind λF=>some (decide (f.Clock<=F.Clock))else some false else some false).bind λM=>bif M then some (.ret 16)else some (.go ())
theorem zu (j:(List Beat)) (h:Nat) (o:Beat) (f:Unit):Le (oK j h o f) (jq j h o f):=by
 unfold oK jq
 repeat' (with_reducible first|exact Le.refl _|exact lK _|refine Le.cond ?_ ?_|refine Le.bind ?_ (λ_=>?_))
def rP (f:(List Beat)):Option (Int) :=
 bif (decide ((f.length:Int)>500))then some 2 else (forL f () (λk x s=>oK f k x s)).bind λh=>thenC h (λj=>some 0) (λr=>some r)
theorem BL (f:(List Beat)):Le (rP f) (gy f):=by
 unfold rP gy
 repeat' (with_reducible first|exact Le.refl _|exact zu _ _ _ _|refine Le.forL (λ_ _ _=>?_)|refine Le.thenC (λ_=>?_) (λ_=>?_)|refine Le.cond ?_ ?_|refine Le.bind ?_ (λ_=>?_))
def xM (h:(List Beat_)) (o:Int):Option (Int×Int) :=
 bif ((h.length:Int)==0)then some (0,8)else (yf 0 (λs=>iG h o s)).bind λT=>thenC T (λA=>bif (A==0)then (idx h 0).bind λI=>(idx h 0).bind λB=>(cK (w64 (I.f_to-(w64 (B.f_from-o))))).bind λR=>bif (!R)then some (0,11)else some ((w64 (I.f_to-(w64 (B.f_from-o)))),0)else bif (A==(h.length:Int))then (idx h (w64 (A-1))).bind λL=>(idx h (w64 (A-1))).bind λF=>(cK (w64 ((w64 (L.f_to+o))-F.f_from))).bind λM=>bif (!M)then some (0,11)else some ((w64 ((w64 (L.f_to+o))-F.f_from)),0)else (idx h (w64 (A-1))).bind λf=>(idx h A).bind λj=>(bif (decide ((w64 (j.f_from-f.f_from))>2592000000))then some true else some (decide ((w64 (j.f_to-f.f_to))>2592000000))).bind λN=>bif N then some (0,2)else (Lv .i64 (w64 ((w64 (o-f.f_from))*(w64 (j.f_to-f.f_to)))) (w64 (j.f_from-f.f_from))).bind λJ=>(cK (w64 (f.f_to+J))).bind λO=>bif (!O)then some (0,11)else some ((w64 (f.f_to+J)),0)) (λ_=>none)
theorem FK (f:(List Beat_)) (h:Int):Le (xM f h) (jO f h):=by
 unfold xM jO
 repeat' (with_reducible first|exact Le.refl _|refine Le.loop (λ_=>?_)|refine Le.thenC (λ_=>?_) (λ_=>?_)|refine Le.cond ?_ ?_|refine Le.bind ?_ (λ_=>?_))
def zx (B:(List Beat)) (f:ByteArray) (A:Int) (h:Bool):Option (Int×Int) :=
 (rP B).bind λo=>bif (o != 0)then some (0,o)else (jH f).bind λJ=>bif (!J)then some (0,5)else (cK A).bind λI=>bif (!I)then some (0,1)else (lY B f h).bind λF=>(xM F A).bind λj=>some (j.1,j.2)
theorem Iz (j:(List Beat)) (f:ByteArray) (o:Int) (h:Bool):Le (zx j f o h) (uq j f o h):=by
 unfold zx uq
 repeat' (with_reducible first|exact Le.refl _|exact lK _|exact BL _|exact FK _ _|refine Le.cond ?_ ?_|refine Le.bind ?_ (λ_=>?_))
def y7 (o:(List Beat)) (f:ByteArray) (h:Int):Option (Int×Int) :=
 (zx o f h false).bind λj=>some (j.1,j.2)
theorem Ip (j:(List Beat)) (f:ByteArray) (h:Int):Le (y7 j f h) (uf j f h):=by
 unfold y7 uf
 repeat' (with_reducible first|exact Le.refl _|exact Iz _ _ _ _|refine Le.bind ?_ (λ_=>?_))
def p8 (h:Alert) (A:Nat) (f:ByteArray) (F:Unit):Option (Ctl (Unit) (Int)) :=
 (jH f).bind λB=>bif (!B)then some (.ret 5)else (bif (decide ((A:Int)>0))then (idx h.Refs (w64 ((A:Int)-1))).bind λj=>some (sLe f j)else some false).bind λo=>bif o then some (.ret 7)else bif (sEq f h.Id)then some (.ret 14)else some (.go ())
theorem zQ (f:Alert) (h:Nat) (o:ByteArray) (j:Unit):Le (p8 f h o j) (kQ f h o j):=by
 unfold p8 kQ
 repeat' (with_reducible first|exact Le.refl _|exact lK _|refine Le.cond ?_ ?_|refine Le.bind ?_ (λ_=>?_))
def sM (f:Alert):Option (Int) :=
 bif (decide ((f.Refs.length:Int)>20))then some 2 else (forL f.Refs () (λk x s=>p8 f k x s)).bind λh=>thenC h (λj=>bif (!((f.Kind==1)==((f.Refs.length:Int)==0)))then some 3 else some 0) (λr=>some r)
theorem Cx (f:Alert):Le (sM f) (nK f):=by
 unfold sM nK
 repeat' (with_reducible first|exact Le.refl _|exact zQ _ _ _ _|refine Le.forL (λ_ _ _=>?_)|refine Le.thenC (λ_=>?_) (λ_=>?_)|refine Le.cond ?_ ?_|refine Le.bind ?_ (λ_=>?_))
def yR (f:ByteArray):Option (Bool) :=
 (yf 0 (λs=>rE f s)).bind λj=>thenC j (λF=>((lZ f).bind λA=>bif A then (pJ f (⟨#[32]⟩:ByteArray)).bind λo=>bif (sEq o f)then (strings_Contains f (⟨#[32,32]⟩:ByteArray)).bind λB=>some (!B)else some false else some false).bind λh=>some h) (λr=>some r)
theorem IG (f:ByteArray):Le (yR f) (tX f):=by
 unfold yR tX
 repeat' (with_reducible first|exact Le.refl _|refine Le.loop (λ_=>?_)|refine Le.thenC (λ_=>?_) (λ_=>?_)|refine Le.cond ?_ ?_|refine Le.bind ?_ (λ_=>?_))
def r9 (f:Alert):Option (Int) :=
 ((jH f.Id).bind λM=>bif (!M)then some true else (jH f.Sender).bind λN=>some (!N)).bind λO=>bif O then some 5 else (aS f.Kind 1 3).bind λL=>bif L then some 4 else (sM f).bind λh=>bif (h != 0)then some h else ((cK f.At).bind λA=>bif (!A)then some true else (aS f.Until (w64 (f.At+1)) (w64 (f.At+2592000000))).bind λj=>bif j then some true else (aS f.Weight 1 9).bind λJ=>some J).bind λF=>bif F then some 1 else bif (decide ((f.Areas.length:Int)>20))then some 2 else (forL f.Areas () (λk x s=>ma k x s)).bind λo=>thenC o (λR=>bif (!((f.Kind==3)==((f.Areas.length:Int)==0)))then some 3 else bif (decide ((f.Text.size:Int)>500))then some 2 else ((yR f.Text).bind λI=>bif (!I)then some true else bif (sEq f.Text (⟨#[]⟩:ByteArray))then some (!(f.Kind==3))else some false).bind λB=>bif B then some 3 else some 0) (λr=>some r)
theorem BH (f:Alert):Le (r9 f) (mE f):=by
 unfold r9 mE
 repeat' (with_reducible first|exact Le.refl _|exact lK _|exact Cx _|exact IG _|refine Le.forL (λ_ _ _=>?_)|refine Le.thenC (λ_=>?_) (λ_=>?_)|refine Le.cond ?_ ?_|refine Le.bind ?_ (λ_=>?_))
def nU (F:(List Alert)) (o:Nat) (A:Alert) (I:Unit):Option (Ctl (Unit) (Int)) :=
 (r9 A).bind λf=>bif (f != 0)then some (.ret f)else (bif (decide ((o:Int)>0))then (idx F (w64 ((o:Int)-1))).bind λB=>(tH B A).bind λj=>some (decide (j>=0))else some false).bind λh=>bif h then some (.ret 7)else some (.go ())
theorem ym (j:(List Alert)) (h:Nat) (o:Alert) (f:Unit):Le (nU j h o f) (jV j h o f):=by
 unfold nU jV
 repeat' (with_reducible first|exact Le.refl _|exact BH _|refine Le.cond ?_ ?_|refine Le.bind ?_ (λ_=>?_))
def qK (f:(List Alert)):Option (Int) :=
 bif (decide ((f.length:Int)>300))then some 2 else (forL f () (λk x s=>nU f k x s)).bind λj=>thenC j (λA=>(forL f ([]:List (ByteArray×Bool)) (λk x s=>lV k x s)).bind λh=>thenC h (λo=>some 0) (λr=>some r)) (λr=>some r)
theorem Av (f:(List Alert)):Le (qK f) (lL f):=by
 unfold qK lL
 repeat' (with_reducible first|exact Le.refl _|exact ym _ _ _ _|refine Le.forL (λ_ _ _=>?_)|refine Le.thenC (λ_=>?_) (λ_=>?_)|refine Le.cond ?_ ?_|refine Le.bind ?_ (λ_=>?_))
def oQ (J:(List Post)) (o:Nat) (f:Post) (L:Unit):Option (Ctl (Unit) (Int)) :=
 (jH f.Player).bind λI=>bif (!I)then some (.ret 5)else ((aS f.X (-100000) 100000).bind λj=>bif j then some true else (aS f.Y (-100000) 100000).bind λh=>some h).bind λB=>bif B then some (.ret 1)else (bif (decide ((o:Int)>0))then (idx J (w64 ((o:Int)-1))).bind λF=>some (sLe f.Player F.Player)else some false).bind λA=>bif A then some (.ret 7)else some (.go ())
theorem yY (j:(List Post)) (h:Nat) (o:Post) (f:Unit):Le (oQ j h o f) (kH j h o f):=by
 unfold oQ kH
 repeat' (with_reducible first|exact Le.refl _|exact lK _|refine Le.cond ?_ ?_|refine Le.bind ?_ (λ_=>?_))
def su (f:(List Post)):Option (Int) :=
 bif (decide ((f.length:Int)>500))then some 2 else (forL f () (λk x s=>oQ f k x s)).bind λh=>thenC h (λj=>some 0) (λr=>some r)
theorem BI (f:(List Post)):Le (su f) (mR f):=by
 unfold su mR
 repeat' (with_reducible first|exact Le.refl _|exact yY _ _ _ _|refine Le.forL (λ_ _ _=>?_)|refine Le.thenC (λ_=>?_) (λ_=>?_)|refine Le.cond ?_ ?_|refine Le.bind ?_ (λ_=>?_))
def sN (j:(List Alert)) (f:(List Post)):Option (Int) :=
 (qK j).bind λh=>bif (h != 0)then some h else (su f).bind λo=>some o
theorem CQ (h:(List Alert)) (f:(List Post)):Le (sN h f) (nM h f):=by
 unfold sN nM
 repeat' (with_reducible first|exact Le.refl _|exact Av _|exact BI _|refine Le.cond ?_ ?_|refine Le.bind ?_ (λ_=>?_))
def wG (f:Alert) (j:Post):Option (Bool×Int) :=
 (sN ([f]:List Alert) ([j]:List Post)).bind λh=>bif (h != 0)then some (false,h)else (tL f j).bind λo=>some (o,0)
theorem Ee (f:Alert) (h:Post):Le (wG f h) (qo f h):=by
 unfold wG qo
 repeat' (with_reducible first|exact Le.refl _|exact CQ _ _|refine Le.cond ?_ ?_|refine Le.bind ?_ (λ_=>?_))
def Az  : Option (Bool) :=
 (zf ([(⟨0,0,2,2⟩:Rect),(⟨1,1,2,2⟩:Rect)]:List Rect)).bind λB=>(uJ (⟨(⟨#[97]⟩:ByteArray),(⟨#[98]⟩:ByteArray),0,0,0,1,127,([]:List Int),1,2,0,([]:List ByteArray),false⟩:Entry) 0 (⟨0,86400000⟩:Window)).bind λj=>(yS (⟨(⟨#[97]⟩:ByteArray),(⟨#[]⟩:ByteArray),(⟨0,100⟩:Window),([]:List ByteArray),10,0,0⟩:Campaign) 50).bind λh=>(y7 ([(⟨(⟨#[112]⟩:ByteArray),0,100⟩:Beat),(⟨(⟨#[112]⟩:ByteArray),1000,1300⟩:Beat)]:List Beat) (⟨#[112]⟩:ByteArray) 700).bind λF=>(wG (⟨(⟨#[97]⟩:ByteArray),(⟨#[115]⟩:ByteArray),1,([]:List ByteArray),0,5,1,([(⟨0,0,2,2⟩:Rect)]:List Rect),(⟨#[120]⟩:ByteArray)⟩:Alert) (⟨(⟨#[112]⟩:ByteArray),1,1⟩:Post)).bind λf=>((BC ([B.2,j.2,h.2,F.2,f.2]:List Int)).bind λA=>bif (A==0)then bif (B.1==7)then bif ((j.1.length:Int)==1)then bif (h.1==5)then bif (F.1==500)then some f.1 else some false else some false else some false else some false else some false).bind λo=>some o
theorem Jm  : Le (Az) (sI):=by
 unfold Az sI
 repeat' (with_reducible first|exact Le.refl _|exact H6 _|exact Di _ _ _|exact Ib _ _|exact Ip _ _ _|exact Ee _ _|refine Le.cond ?_ ?_|refine Le.bind ?_ (λ_=>?_))
theorem ready_F:Az=some true:=by kernel_rfl
theorem TZ:sI=some true:=Jm _ ready_F
theorem KO {α:Type} {z:α} {body:Nat->Nat->List α->Option (Ctl (List α) Unit)} (hb:∀k x s,body k x s=(inR (k:Int) s).bind λ_=>(s[(0+((k:Int)).toNat)]?).bind λ_=>some (.go (s.set (0+((k:Int)).toNat) z))) (l:List α) (hl:l.length<=100000):∃r,forL (List.range ((l.length:Int)).toNat) l (λk x s=>body k x s)=some (.go r)/\r.length=l.length:=by
 obtain ⟨r,h,o⟩:=qA (body:=λk x s=>body k x s) (λ_ s=>s.length=l.length) (xs:=List.range ((l.length:Int)).toNat) (s:=l) (by simp;omega) (λk x s j hs=>by
  have A:=(List.getElem?_eq_some_iff.1 j).1
  rw [List.length_range]at A
  have f:s[0+((k:Int)).toNat]? = some (s[0+((k:Int)).toNat]'(by omega)):=List.getElem?_eq_getElem (by omega)
  rw [hb,yO (by omega) (by omega),ob_,f,ob_]
  exact⟨_,rfl,by rw [List.length_set];exact hs⟩) rfl
 exact⟨r,h,o⟩
theorem F8 {α:Type} {a b:List α} (h:a.length=b.length):fu a b=some ():=by unfold fu;rw [if_pos h]
theorem spoilL (l:List Log_) (hl:l.length<=100000):∃r,jC l=some r/\fu r l=some ():=by
 obtain ⟨r,f,h⟩:=KO (body:=λk x s=>jP k x s) (λk x s=>rfl) l hl
 exact⟨r,by unfold jC;rw [f];rfl,F8 h⟩
theorem spoilP (l:List Play) (hl:l.length<=100000):∃r,ji l=some r/\fu r l=some ():=by
 obtain ⟨r,f,h⟩:=KO (body:=λk x s=>jA k x s) (λk x s=>rfl) l hl
 exact⟨r,by unfold ji;rw [f];rfl,F8 h⟩
theorem spoilT (l:List Tally) (hl:l.length<=100000):∃r,iW l=some r/\fu r l=some ():=by
 obtain ⟨r,f,h⟩:=KO (body:=λk x s=>jk k x s) (λk x s=>rfl) l hl
 exact⟨r,by unfold iW;rw [f];rfl,F8 h⟩
theorem spoilM (l:List Match) (hl:l.length<=100000):∃r,iZ l=some r/\fu r l=some ():=by
 obtain ⟨r,f,h⟩:=KO (body:=λk x s=>jh k x s) (λk x s=>rfl) l hl
 exact⟨r,by unfold iZ;rw [f];rfl,F8 h⟩
theorem eqLog (l:List Log_) (hl:l.length<=1000000):fq l l=some true:=by
 unfold fq
 have j:((l.length:Int) != (l.length:Int))=false:=by simp
 obtain ⟨s,f,_⟩:=qA (body:=λk x s=>dP l k x s) (ρ:=Bool) (λ_ _=>True) (xs:=l) (s:=()) (by omega) (λk x s h _=>by
  refine⟨(),?_,trivial⟩
  unfold dP
  rw [l8,h,ob_]
  simp) trivial
 rw [j,cond_false,f];rfl
theorem eqBeat (l:List Beat) (hl:l.length<=1000000):d9 l l=some true:=by
 unfold d9
 have j:((l.length:Int) != (l.length:Int))=false:=by simp
 obtain ⟨s,f,_⟩:=qA (body:=λk x s=>dE l k x s) (ρ:=Bool) (λ_ _=>True) (xs:=l) (s:=()) (by omega) (λk x s h _=>by
  refine⟨(),?_,trivial⟩
  unfold dE
  rw [l8,h,ob_]
  simp) trivial
 rw [j,cond_false,f];rfl
theorem eqPlay (l:List Play) (hl:l.length<=1000000):ek l l=some true:=by
 unfold ek
 have j:((l.length:Int) != (l.length:Int))=false:=by simp
 obtain ⟨s,f,_⟩:=qA (body:=λk x s=>dF l k x s) (ρ:=Bool) (λ_ _=>True) (xs:=l) (s:=()) (by omega) (λk x s h _=>by
  refine⟨(),?_,trivial⟩
  unfold dF
  rw [l8,h,ob_]
  simp) trivial
 rw [j,cond_false,f];rfl
theorem eqStr (l:List ByteArray) (hl:l.length<=100000000):fT l l=some true:=by
 unfold fT
 have o:((l.length:Int) != (l.length:Int))=false:=by simp
 obtain ⟨s,h,_⟩:=qA (body:=λk x s=>eP l k x s) (ρ:=Bool) (λ_ _=>True) (xs:=l) (s:=()) (by omega) (λk x s j _=>by
  refine⟨(),?_,trivial⟩
  have f:sNe x x=false:=by
   show (!sEq x x)=false
   rw [(KH _ _).2 rfl];rfl
  unfold eP
  rw [l8,j,ob_,f];rfl) trivial
 rw [o,cond_false,h];rfl
theorem Qx {l:List Play} (h:RPlays l):VP l:=by
 refine⟨λx f => ?_,λx f=>by have:=(h.right x f).at_;omega,λx f=>by have:=(h.right x f).lo;omega,h.rise⟩
 obtain ⟨h1,h2,j,o⟩:=h.right x f
 refine⟨?_,?_,by omega,by omega⟩
 ·rcases h1 with e|e <;> rw [e] <;> exact oL rfl
 ·rcases h2 with e|e <;> rw [e] <;> exact oL rfl
theorem rp_zero {l:List Play} (h:RPlays l):Ot l=0:=by
 have h1:=Cf (Qx h).good (by have:=h.len;omega)
 rw [Dq h,so_]at h1
 exact h1.symm
theorem proofsStay (l:List Int):qE l=some true:=by
 obtain ⟨x,x1,x2,x3,Y,x5⟩:=FT ⟨l,0⟩ 5 (by decide) (b:=0) ⟨Int.le_refl _,Int.le_refl _⟩ (by decide)
 obtain ⟨B,s2,b1,b2,b3,b4,b5⟩:=ED x.2 x2 (by omega)
 obtain ⟨z,s3,z1,z2,z3,z4⟩:=OC 5 (by decide) s2 b2 (by omega)
 have o:x.1.length<=10:=x3
 have hzl:z.length<=10:=z3
 have l0:=Q6 Y x5 (by omega)
 have Z:=N7 b4 b5 (by omega)
 have J:∀y∈x.1,wM y:=λy A=>E5 (Y y A)
 have R:=PH x.1 J (by omega)
 have hb:=beatsK B (λy A=>NM (b4 y A)) (by omega)
 rw [l0]at R
 rw [Z]at hb
 have h0:dW []=some 0:=by
  have:=PH [] (λy A=>by cases A) (by simp)
  rw [this];rfl
 obtain ⟨t1,t2⟩:=logsF_0 l0
 obtain ⟨_,u2⟩:=Sl Z
 obtain ⟨F,f1,f2⟩:=NV (B:=B) ⟨u2,by omega⟩ (L:=x.1) ⟨t1,t2,by omega⟩ R hb
 generalize (fnd B x.1 x.1).1=pl at f1 f2
 have f:=Qx z2
 have W:=rp_zero z2
 have I:=Dq z2
 obtain ⟨r,r1,r2⟩:=O4 f (by omega) (zone:=0) (by decide) W
 have N:=G5 (zone:=0) (by decide) z f.at_ f.lo
 have hrl:r.length<=10:=by have:=r2.length_eq;have:=N.len;omega
 obtain ⟨M,left,c1,c2⟩:=QV f f I I (by omega) (by omega) (most:=5) (by decide)
 obtain ⟨p,e,p1,p2,p3⟩:=pathOk x.1 J (by omega) l0
 obtain ⟨rt,T,O⟩:=rootOk x.1 J (by omega) l0
 obtain ⟨w1,k1,k2⟩:=spoilL x.1 (by omega)
 obtain ⟨w2,k3,k4⟩:=spoilP pl (by omega)
 obtain ⟨w3,k5,k6⟩:=spoilT r (by omega)
 obtain ⟨w4,k7,k8⟩:=spoilM M (by omega)
 unfold qE
 simp only [x1,b1,z1,ob_,Rv x5 (by omega) R h0,k1,k2,f1,k3,k4,r1,k5,k6,c1,k7,k8,p3,cloneSE p (by omega),O,beq_self_eq_true,cond_true]
 have hv:(bif decide ((x.1.length:Int)>0)then (idx x.1 0).bind λj=>(pz rt (x.1.length:Int) 0 j p).bind λr_64=>some ()else some ())=some ():=by
  cases hx:x.1 with
  | nil=>rfl
  | cons y ys =>
   have h:=o
   rw [hx]at h
   obtain ⟨v,v1⟩:=SX rt (((y::ys).length:Nat):Int) 0 y p T (by omega) (J y (by rw [hx];simp)) p1 (by omega)
   rw [decide_eq_true (by simp only [List.length_cons];omega),cond_true,show idx (y::ys) 0=some y from rfl,ob_,v1];rfl
 rw [hv]
 simp only [ob_,eqLog x.1 (by omega),eqBeat B (by omega),eqPlay z (by omega),eqStr p (by omega),TZ,cond_true]
end Go.Proofs.YtnfojnnfidnikaeGreatDoor.Law

