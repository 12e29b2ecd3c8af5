/-
  THE PLAIN LAW (part 4).
-/
import Derived.Test.YtnfojnnfidnikaeGreatDoorPl3
import Derived.Test.YtnfojnnfidnikaeGreatDoorDefs
open Go Go.Eng
namespace Go.Proofs.YtnfojnnfidnikaeGreatDoor.Law
set_option linter.unusedVariables false
set_option linter.unusedSimpArgs false
def OG (p:Play) (zone:Int):Int:=(p.At+zone*60000) / 86400000
theorem day_eq {p:Play} {zone:Int} (h:0<=p.At/\p.At<=345686399999) (j : -1440<=zone/\zone<=1440):uq p.At zone=some (OG p zone):=by
 unfold uq OG
 have h1:w64 (zone*60000)=zone*60000:=dh (by omega)
 have h2:w64 (p.At+zone*60000)=p.At+zone*60000:=dh (by omega)
 have f:w64 (p.At+zone*60000+86400000)=p.At+zone*60000+86400000:=dh (by omega)
 rw [h1,h2,f,Int.tdiv_eq_ediv_of_nonneg (by omega),dh (n:=(p.At+zone*60000+86400000) / 86400000) (by omega),dh (by omega)]
 congr 1;omega
def sameK (k t:Tally):Bool:=decide (t.Player=k.Player)&&(decide (t.Item=k.Item)&&decide (t.Day=k.Day))
theorem Bc {k t:Tally}:sameK k t=true↔t.Player=k.Player/\t.Item=k.Item/\t.Day=k.Day:=by unfold sameK;simp
def ixT (k:Tally):List Tally->Option Nat
 | []=>none
 | t::ts=>if sameK k t=true then some 0 else (ixT k ts).map (· + 1)
theorem MW {k:Tally}:∀{ts:List Tally} {i:Nat},ixT k ts=some i->∃t,ts[i]? = some t/\sameK k t=true
 | t::ts,i,h=>by
  simp only [ixT]at h
  split at h
  ·rename_i h1
   simp only [so_]at h;subst h
   exact⟨t,rfl,h1⟩
  ·simp only [Option.map_eq_some_iff]at h
   obtain ⟨j,hj,rfl⟩:=h
   obtain ⟨t',h1,h2⟩:=MW hj
   exact⟨t',by simpa using h1,h2⟩
 | [],_,h=>by cases h
theorem NM {k:Tally}:∀{ts:List Tally},ixT k ts=none->∀t∈ts,sameK k t=false
 | t::ts,h=>by
  simp only [ixT]at h
  split at h
  ·cases h
  ·rename_i h1
   simp only [Option.map_eq_none_iff]at h
   intro x f
   rcases List.mem_cons.1 f with rfl|f
   ·simpa using h1
   ·exact NM h x f
 | [],_=>λx f=>by cases f
theorem QA {k:Tally} {x:Tally} (f:sameK k x=true):∀{ts:List Tally},ixT k ts=none->ixT k (ts++[x])=some ts.length
 | [],_=>by simp [ixT,f]
 | t::ts,h=>by
  simp only [ixT]at h
  split at h
  ·cases h
  ·rename_i h1
   simp only [Option.map_eq_none_iff]at h
   simp only [List.cons_append,ixT,if_neg h1,QA f h,Option.map_some,List.length_cons]
theorem PK {k x y:Tally} {i:Nat} (hs:sameK k x=sameK k y):∀{ts:List Tally} {j:Nat},ts[j]? = some x->ixT k (ts.set j y)=ixT k ts
 | t::ts,0,h=>by
  simp only [List.getElem?_cons_zero,so_]at h;subst h
  simp only [List.set_cons_zero,ixT,hs]
 | t::ts,j+1,h=>by
  simp only [List.set_cons_succ,ixT,PK (i:=i) hs (ts:=ts) (j:=j) (by simpa using h)]
 | [],_,h=>by cases h
def kT (p:Play) (zone:Int):Tally:=⟨p.Player,p.Item,OG p zone,0,0⟩
def upT (t:Tally) (p:Play):Tally:=⟨t.Player,t.Item,t.Day,t.Many+1,t.Long+p.Long⟩
def pW (zone:Int) (ts:List Tally) (p:Play):List Tally:=match ixT (kT p zone) ts with | none=>ts++[kT p zone] | some _=>ts
theorem Nf (zone:Int) (ts:List Tally) (p:Play):∃i t,ixT (kT p zone) (pW zone ts p)=some i/\(pW zone ts p)[i]? = some t/\sameK (kT p zone) t=true:=by
 have f:sameK (kT p zone) (kT p zone)=true:=Bc.2 ⟨rfl,rfl,rfl⟩
 unfold pW
 cases h:ixT (kT p zone) ts with
 | none =>
  refine⟨ts.length,kT p zone,QA f h,by simp,f⟩
 | some i =>
  obtain ⟨t,h1,h2⟩:=MW h
  exact⟨i,t,h,h1,h2⟩
def stepT (zone:Int) (ts:List Tally) (p:Play):List Tally:=match ixT (kT p zone) (pW zone ts p)with
 | none=>ts
 | some i=>match (pW zone ts p)[i]? with
  | none=>ts
  | some t=>(pW zone ts p).set i (upT t p)
theorem Nr {zone:Int} {ts:List Tally} {p:Play} {i:Nat} {t:Tally} (h1:ixT (kT p zone) (pW zone ts p)=some i) (h2:(pW zone ts p)[i]? = some t):stepT zone ts p=(pW zone ts p).set i (upT t p):=by
 unfold stepT;rw [h1];simp only [h2]
structure TT (n:Nat) (ts:List Tally):Prop where
 len:ts.length<=n
 day:∀t∈ts,-1000000<=t.Day/\t.Day<=1000000
 many:∀t∈ts,0<=t.Many/\t.Many<=n
 lo:∀t∈ts,0<=t.Long/\t.Long<=86400000*n
 dif:ts.Pairwise (λa b=>sameK a b=false)
theorem Iy {a b:Tally}:sameK a b=sameK b a:=by
 rw [Bool.eq_iff_iff,Bc,Bc]
 exact⟨fun⟨h1,h2,f⟩=>⟨h1.symm,h2.symm,f.symm⟩,fun⟨h1,h2,f⟩=>⟨h1.symm,h2.symm,f.symm⟩⟩
theorem dayZ_in {p:Play} {zone:Int} (h:0<=p.At/\p.At<=345686399999) (f : -1440<=zone/\zone<=1440) : -1000000<=OG p zone/\OG p zone<=1000000:=by
 unfold OG;omega
theorem NE {zone:Int} {n:Nat} {ts:List Tally} {p:Play} (h:TT n ts) (I:0<=p.At/\p.At<=345686399999) (F : -1440<=zone/\zone<=1440):TT (n+1) (pW zone ts p):=by
 obtain ⟨h1,h2,j,A,o⟩:=h
 unfold pW
 cases hi:ixT (kT p zone) ts with
 | some i=>exact⟨by simp only [];omega,h2,λt f=>by have:=j t f;omega,λt f=>by have:=A t f;omega,o⟩
 | none =>
  have J:=dayZ_in I F
  refine⟨by simp;omega,λt f => ?_,λt f => ?_,λt f => ?_,?_⟩
  ·rcases List.mem_append.1 f with f|f
   ·exact h2 t f
   ·rw [List.mem_singleton.1 f];exact J
  ·rcases List.mem_append.1 f with f|f
   ·have:=j t f;omega
   ·rw [List.mem_singleton.1 f];show (0:Int)<=0/\(0:Int)<=_;omega
  ·rcases List.mem_append.1 f with f|f
   ·have:=A t f;omega
   ·rw [List.mem_singleton.1 f];show (0:Int)<=0/\(0:Int)<=_;omega
  ·refine List.pairwise_append.2 ⟨o,List.pairwise_singleton _ _,λa B b hb => ?_⟩
   rw [List.mem_singleton.1 hb,Iy]
   exact NM hi a B
theorem RI {zone:Int} {n:Nat} {ts:List Tally} {p:Play} (h:TT n ts) (B:0<=p.At/\p.At<=345686399999) (hl:1<=p.Long/\p.Long<=86400000) (N : -1440<=zone/\zone<=1440):TT (n+1) (stepT zone ts p):=by
 obtain ⟨i,t,T,i2,i3⟩:=Nf zone ts p
 rw [Nr T i2]
 have M:=NE h B N
 have W:∀x∈pW zone ts p,x.Many<=n/\x.Long<=86400000*n:=λx f=>by
  unfold pW at f
  split at f
  ·rcases List.mem_append.1 f with f|f
   ·exact⟨(h.many x f).2,(h.lo x f).2⟩
   ·rw [List.mem_singleton.1 f];show (0:Int)<=n/\(0:Int)<=86400000*n;omega
  ·exact⟨(h.many x f).2,(h.lo x f).2⟩
 have o:=List.mem_of_getElem? i2
 obtain ⟨Z,Y⟩:=W t o
 obtain ⟨h1,h2,J,L,R⟩:=M
 refine⟨by rw [List.length_set];exact h1,GJ h2 (h2 t o),GJ J ?_,GJ L ?_,?_⟩
 ·have:=J t o;show 0<=t.Many+1/\t.Many+1<=((n+1:Nat):Int);omega
 ·have:=L t o;show 0<=t.Long+p.Long/\t.Long+p.Long<=86400000*((n+1:Nat):Int);omega
 ·refine List.pairwise_iff_getElem.2 (λa b A hb F => ?_)
  simp only [List.length_set]at A hb
  have B:=List.pairwise_iff_getElem.1 R a b A hb F
  obtain ⟨O,I⟩:=List.getElem?_eq_some_iff.1 i2
  have e:∀j (hj:j<(pW zone ts p).length),sameK (((pW zone ts p).set i (upT t p))[j]'(by rw [List.length_set];exact hj))=sameK (pW zone ts p)[j]/\∀k,sameK k (((pW zone ts p).set i (upT t p))[j]'(by rw [List.length_set];exact hj))=sameK k (pW zone ts p)[j]:=λj hj=>by
   rw [List.getElem_set]
   split
   ·rename_i e;subst e;rw [I];exact⟨rfl,λ_=>rfl⟩
   ·exact⟨rfl,λ_=>rfl⟩
  rw [(e a A).1,(e b hb).2];exact B
def Dc (zone:Int) (l:List Play):List Tally:=l.foldl (stepT zone) []
theorem OP (zone:Int) (l:List Play) (p:Play):Dc zone (l++[p])=stepT zone (Dc zone l) p:=by unfold Dc;rw [List.foldl_append];rfl
theorem HY {zone:Int} (A : -1440<=zone/\zone<=1440):∀(l:List Play),(∀x∈l,0<=x.At/\x.At<=345686399999)->(∀x∈l,1<=x.Long/\x.Long<=86400000)->TT l.length (Dc zone l):=by
 have key:∀(l:List Play) (n:Nat) (ts:List Tally),(∀x∈l,0<=x.At/\x.At<=345686399999)->(∀x∈l,1<=x.Long/\x.Long<=86400000)->TT n ts->TT (n+l.length) (l.foldl (stepT zone) ts):=by
  intro l
  induction l with
  | nil=>intro n ts _ _ h;exact h
  | cons p l B =>
   intro n ts j hl h
   have:=B (n+1) (stepT zone ts p) (λx o=>j x (by simp [o])) (λx o=>hl x (by simp [o])) (RI h (j p (by simp)) (hl p (by simp)) A)
   rw [List.foldl_cons,List.length_cons,show n+(l.length+1)=n+1+l.length by omega];exact this
 intro l j hl
 have:=key l 0 [] j hl ⟨by simp,λt f=>(by cases f),λt f=>(by cases f),λt f=>(by cases f),List.Pairwise.nil⟩
 rw [Nat.zero_add]at this;exact this
theorem Qa (a b:ByteArray):(a==b)=true↔a=b:=by
 obtain ⟨x⟩:=a
 obtain ⟨y⟩:=b
 refine⟨λh => ?_,λh => ?_⟩
 ·have h1:(x==y)=true:=h
  rw [eq_of_beq h1]
 ·cases h
  show (x==x)=true
  exact beq_self_eq_true x
theorem Qg {eq:Tally->Tally->Bool} {k:Tally} (he:∀a b:Tally,eq a b=(eqS a.Player b.Player&&(eqS a.Item b.Item&&(eqI a.Day b.Day&&(eqI a.Many b.Many&&(eqI a.Long b.Long&&true)))))) (f:k.Many=0/\k.Long=0):∀{es:List (Tally×Tally)},(∀e∈es,e.1=⟨e.2.Player,e.2.Item,e.2.Day,0,0⟩)->wG eq k es=ixT k (es.map (·.2))
 | [],_=>rfl
 | e::es,h=>by
  have h1:=h e (by simp)
  have hs:eq k e.1=sameK k e.2:=by
   rw [he,h1]
   simp only [f.1,f.2,eqI,eqS,beq_self_eq_true,Bool.and_true]
   unfold sameK
   have A:(k.Player==e.2.Player)=decide (e.2.Player=k.Player):=by rw [Bool.eq_iff_iff,Qa,decide_eq_true_eq];exact eq_comm
   have a2:(k.Item==e.2.Item)=decide (e.2.Item=k.Item):=by rw [Bool.eq_iff_iff,Qa,decide_eq_true_eq];exact eq_comm
   have a3:(k.Day==e.2.Day)=decide (e.2.Day=k.Day):=by rw [Bool.eq_iff_iff,beq_iff_eq,decide_eq_true_eq];exact eq_comm
   rw [A,a2,a3]
  have o:=Qg he f (es:=es) (λx j=>h x (List.mem_cons_of_mem _ j))
  simp only [wG,List.map_cons,ixT,hs,o]
def ES (es:List (Tally×Tally)) (ts:List Tally):Prop:=es.map (·.2)=ts/\∀e∈es,e.1=⟨e.2.Player,e.2.Item,e.2.Day,0,0⟩
theorem Q5 {zone:Int} (T : -1440<=zone/\zone<=1440) {es:List (Tally×Tally)} {ts:List Tally} {n:Nat} (hn:n<=100) (hE:ES es ts) (h:TT n ts) {p:Play} (W:0<=p.At/\p.At<=345686399999) (hl:1<=p.Long/\p.Long<=86400000) (k:Nat) :
  ∃I,lF zone k p es=some (.go I)/\ES I (stepT zone ts p):=by
 obtain ⟨i,t,J,i2,i3⟩:=Nf zone ts p
 have O:=NE h W T
 obtain ⟨hil,hit⟩:=List.getElem?_eq_some_iff.1 i2
 have R:=List.mem_of_getElem? i2
 have m1:=O.many t R
 have m2:=O.lo t R
 obtain ⟨M,N⟩:=hE
 generalize F:(λ(a b:Tally)=>(eqS a.Player b.Player&&(eqS a.Item b.Item&&(eqI a.Day b.Day&&(eqI a.Many b.Many&&(eqI a.Long b.Long&&true))))))=eq
 have he:∀a b:Tally,eq a b=(eqS a.Player b.Player&&(eqS a.Item b.Item&&(eqI a.Day b.Day&&(eqI a.Many b.Many&&(eqI a.Long b.Long&&true))))):=λa b=>by rw [<- F]
 unfold lF
 rw [day_eq W T,ob_]
 simp only [F]
 have Y:(⟨p.Player,p.Item,OG p zone,0,0⟩:Tally)=kT p zone:=rfl
 simp only [Y]
 have hv:∃v,(bif (wG eq (kT p zone) es).isNone then (Tp (wG eq (kT p zone) es)).bind λ_=>some (es++[(kT p zone,kT p zone)])else some es)=some v/\v.map (·.2)=pW zone ts p/\∀e∈v,e.1=⟨e.2.Player,e.2.Item,e.2.Day,0,0⟩:=by
  rw [Qg he ⟨rfl,rfl⟩ N,M]
  unfold pW
  cases hi:ixT (kT p zone) ts with
  | none =>
   refine⟨_,rfl,by rw [List.map_append,M];rfl,λe f => ?_⟩
   rcases List.mem_append.1 f with f|f
   ·exact N e f
   ·rw [List.mem_singleton.1 f];rfl
  | some j=>exact⟨es,rfl,M,N⟩
 obtain ⟨v,v1,v2,v3⟩:=hv
 rw [v1,ob_,Qg he ⟨rfl,rfl⟩ v3,v2,J,ob_]
 have hvl:v.length=(pW zone ts p).length:=by rw [<- v2,List.length_map]
 obtain ⟨e,g1,B⟩:∃e,v[i]? = some e/\e.2=t:=by
  have:=i2
  rw [<- v2,List.getElem?_map,Option.map_eq_some_iff]at this
  exact this
 have g3:=v3 e (List.mem_of_getElem? g1)
 simp only [g1,ob_]
 have o:∀y:Tally,y.Player=e.2.Player->y.Item=e.2.Item->y.Day=e.2.Day->ES (v.set i (e.1,y)) ((pW zone ts p).set i y):=λy y1 y2 y3=>by
  refine⟨by rw [List.map_set,v2],λx A => ?_⟩
  rcases List.mem_or_eq_of_mem_set A with A|A
  ·exact v3 x A
  ·rw [A];simp only [y1,y2,y3];exact g3
 obtain ⟨q1,Z⟩:=o ⟨e.2.Player,e.2.Item,e.2.Day,w64 (e.2.Many+1),e.2.Long⟩ rfl rfl rfl
 have L:wG eq (kT p zone) (v.set i (e.1,(⟨e.2.Player,e.2.Item,e.2.Day,w64 (e.2.Many+1),e.2.Long⟩:Tally)))=some i:=by
  rw [Qg he ⟨rfl,rfl⟩ Z,q1,PK (i:=i) (x:=t) (by rw [B];rfl) i2];exact J
 rw [L,ob_]
 simp only [set_atK (show i<v.length by omega),ob_,List.set_set]
 refine⟨_,rfl,?_⟩
 rw [Nr J i2]
 have:=o (upT t p) (by rw [B];rfl) (by rw [B];rfl) (by rw [B];rfl)
 have hy:(⟨e.2.Player,e.2.Item,e.2.Day,w64 (e.2.Many+1),w64 (e.2.Long+p.Long)⟩:Tally)=upT t p:=by
  rw [B,dh (n:=t.Many+1) (by omega),dh (n:=t.Long+p.Long) (by omega)];rfl
 rw [hy];exact this
def ltT (a b:Tally):Prop:=lt a.Player b.Player\/a.Player=b.Player/\(lt a.Item b.Item\/a.Item=b.Item/\a.Day<b.Day)
def cT (a b:Tally):Int:=zW (Av a.Player b.Player) (zW (Av a.Item b.Item) (uz a.Day b.Day))
theorem JK {a b:ByteArray} (h:lt a b):a≠b:=λk=>by rw [k]at h;exact fq _ h
theorem Sc {a b:Int}:uz a b<0↔a<b:=by 
 unfold uz
 split
 ·omega
 ·split <;> omega
theorem Et {a b:Tally}:cT a b<0↔ltT a b:=by
 unfold cT zW ltT
 rcases jM a.Player b.Player with⟨h,e⟩|⟨h,e⟩|⟨h,e⟩
 ·rw [e];simp [h]
 ·rw [e,h]
  have o:¬lt b.Player b.Player:=fq _
  rcases jM a.Item b.Item with⟨h2,j⟩|⟨h2,j⟩|⟨h2,j⟩
  ·rw [j];simp [h2]
  ·rw [j,h2]
   have f:¬lt b.Item b.Item:=fq _
   simp [o,f,Sc]
  ·have f:¬lt a.Item b.Item:=λk=>fq _ (lt_trans h2 k)
   have A:a.Item≠b.Item:=λk=>JK h2 k.symm
   rw [j];simp [o,f,A]
 ·have o:¬lt a.Player b.Player:=λk=>fq _ (lt_trans h k)
  have f:a.Player≠b.Player:=λk=>JK h k.symm
  rw [e];simp [o,f]
theorem JF {a b:Tally} (h:ltT a b) (k:ltT b a):False:=by
 rcases h with h|⟨h1,h⟩
 ·rcases k with k|⟨j,k⟩
  ·exact fq _ (lt_trans h k)
  ·exact JK h j.symm
 ·rcases k with k|⟨j,k⟩
  ·exact JK k h1.symm
  ·rcases h with h|⟨h2,h⟩
   ·rcases k with k|⟨f,k⟩
    ·exact fq _ (lt_trans h k)
    ·exact JK h f.symm
   ·rcases k with k|⟨f,k⟩
    ·exact JK k h2.symm
    ·omega
theorem ltT_cut {a b d:Tally} (h:ltT a d):ltT a b\/ltT b d:=by
 rcases KR a.Player b.Player with p|p|p
 ·exact .inl (.inl p)
 ·rcases h with h|⟨h1,h⟩
  ·exact .inr (.inl (by rw [<- p];exact h))
  ·rcases KR a.Item b.Item with q|q|q
   ·exact .inl (.inr ⟨p,.inl q⟩)
   ·rcases h with h|⟨h2,h⟩
    ·exact .inr (.inr ⟨p.symm.trans h1,.inl (by rw [<- q];exact h)⟩)
    ·rcases Int.lt_or_le a.Day b.Day with r|r
     ·exact .inl (.inr ⟨p,.inr ⟨q,r⟩⟩)
     ·exact .inr (.inr ⟨p.symm.trans h1,.inr ⟨q.symm.trans h2,by omega⟩⟩)
   ·rcases h with h|⟨h2,h⟩
    ·exact .inr (.inr ⟨p.symm.trans h1,.inl (lt_trans q h)⟩)
    ·exact .inr (.inr ⟨p.symm.trans h1,.inl (by rw [<- h2];exact q)⟩)
 ·rcases h with h|⟨h1,h⟩
  ·exact .inr (.inl (lt_trans p h))
  ·exact .inr (.inl (by rw [<- h1];exact p))
theorem ltT_tri {a b:Tally} (h:sameK a b=false):ltT a b\/ltT b a:=by
 have f:¬(b.Player=a.Player/\b.Item=a.Item/\b.Day=a.Day):=λk=>by
  have:=Bc.2 k;rw [h]at this;cases this
 rcases KR a.Player b.Player with p|p|p
 ·exact .inl (.inl p)
 ·rcases KR a.Item b.Item with q|q|q
  ·exact .inl (.inr ⟨p,.inl q⟩)
  ·rcases Int.lt_trichotomy a.Day b.Day with r|r|r
   ·exact .inl (.inr ⟨p,.inr ⟨q,r⟩⟩)
   ·exact absurd ⟨p.symm,q.symm,r.symm⟩ f
   ·exact .inr (.inr ⟨p.symm,.inr ⟨q.symm,r⟩⟩)
  ·exact .inr (.inr ⟨p.symm,.inl q⟩)
 ·exact .inr (.inl p)
theorem or3_eq (a b c:Int):lh [a,b,c]=some (zW a (zW b c)):=by
 unfold lh zW
 rw [jX (by simp)]
 have f:∀k (x:Int),nQ k x ()=some (bif x != 0 then .ret x else .go ()):=λk x=>by
  unfold nQ;cases x != 0 <;> rfl
 cases ha:a==0 with
 | false =>
  have h1:(a != 0)=true:=by rw [bne,ha];rfl
  simp only [forR,f,h1,cond_true,ob_,cond_false];rfl
 | true =>
  have h1:(a != 0)=false:=by rw [bne,ha];rfl
  cases hb:b==0 with
  | false =>
   have h2:(b != 0)=true:=by rw [bne,hb];rfl
   simp only [forR,f,h1,h2,cond_true,cond_false,ob_];rfl
  | true =>
   have h2:(b != 0)=false:=by rw [bne,hb];rfl
   cases hc:c==0 with
   | false =>
    have h:(c != 0)=true:=by rw [bne,hc];rfl
    simp only [forR,f,h1,h2,h,cond_true,cond_false,ob_];rfl
   | true =>
    have h:(c != 0)=false:=by rw [bne,hc];rfl
    have:c=0:=eq_of_beq hc
    subst this
    simp only [forR,f,h1,h2,h,cond_true,cond_false,ob_];rfl
theorem cmpC_eq (a b:Tally):mM a b=some (cT a b):=by
 unfold mM cT
 simp only [uj,sQ,or3_eq,ob_]
theorem JA {ts r:List Tally} (j:ts.Pairwise (λa b=>sameK a b=false)) (f:r.Perm ts) (hs:r.Pairwise (λa b=>¬cT b a<0)):r.Pairwise ltT:=by
 have h1:r.Pairwise (λa b=>sameK a b=false):=(f.pairwise_iff (λ{a b} h=>by rw [Iy];exact h)).2 j
 refine (List.Pairwise.and h1 hs).imp (λ{a b} ⟨h,k⟩ => ?_)
 rw [Et]at k
 rcases ltT_tri h with q|q
 ·exact q
 ·exact absurd q k
theorem len_ok:∀n:Nat,n<=12->∃k,kI (IntKind.u64.wrap (n:Int))=some k:=by
 have h:(List.range 13).all (λn=>(kI (IntKind.u64.wrap (n:Int))).isSome)=true:=by kernel_rfl
 intro n f
 have:=List.all_eq_true.1 h n (by simp;omega)
 exact Option.isSome_iff_exists.1 this
theorem sort12 {α:Type} {cmp:α->α->Option Int} (c:α->α->Int) {S:List α->Option (List α)} (F:∀x,S x=(kI (IntKind.u64.wrap (x.length:Int))).bind λo=>(O5 cmp x 0 (x.length:Int) o).bind λf=>(fA f x).bind λ_=>some f)
  {xs:List α} (hl:xs.length<=12) (L:∀a∈xs,∀b∈xs,cmp a b=some (c a b)) (A:∀a b,c a b<0->¬c b a<0) (N:∀a b d,¬c a b<0->¬c b d<0->¬c a d<0) :
  ∃r,S xs=some r/\r.Perm xs/\r.Pairwise (λa b=>¬c b a<0):=by
 obtain ⟨k,M⟩:=len_ok xs.length hl
 obtain ⟨s,h1,h2,I⟩:=pdq_ok (cmp:=cmp) (le:=λa b=>¬c b a<0) (p:=(· ∈ xs)) (λa b J hb=>⟨c a b,L a J b hb,λh=>A a b h,λh=>h⟩) (λa b d h k=>N d b a k h) xs hl (λx B=>B) k
 refine⟨s,?_,h2,I⟩
 have j:fA s xs=some ():=by unfold fA;rw [if_pos h2.length_eq]
 rw [F,M,ob_,h1,ob_,j];rfl
theorem QN {ts:List Tally} {n:Nat} (h:TT n ts) (hl:ts.length<=12):∃r,r.Perm ts/\∀f,f.Perm ts->bQ f=some r:=by
 have o:∀a b,cT a b<0->¬cT b a<0:=λa b h k=>JF (Et.1 h) (Et.1 k)
 have A:∀a b d,¬cT a b<0->¬cT b d<0->¬cT a d<0:=λa b d h k q=>by
  rcases ltT_cut (b:=b) (Et.1 q)with e|e
  ·exact h (Et.2 e)
  ·exact k (Et.2 e)
 have F:∀xs:List Tally,xs.length<=12->∃r,bQ xs=some r/\r.Perm xs/\r.Pairwise (λa b=>¬cT b a<0):=λxs J =>
  sort12 (cmp:=mM) (S:=bQ) cT (λ_=>rfl) (xs:=xs) J (λa _ b _=>cmpC_eq a b) o A
 obtain ⟨r,O,j,I⟩:=F ts hl
 refine⟨r,j,λf ho => ?_⟩
 obtain ⟨N,M,B,L⟩:=F f (by rw [ho.length_eq];exact hl)
 rw [M]
 congr 1
 exact List.Perm.eq_of_pairwise (le:=ltT) (λx y _ _ h1 h2=>(JF h1 h2).elim) (JA h.dif (B.trans ho) L) (JA h.dif j I) ((B.trans ho).trans j.symm)
theorem told {es:List (Tally×Tally)} (hl:es.length<=1000):∀(l:List (Nat×Tally)) (f:List Tally),f.length+l.length<=2000->(∀e∈l,e.1<es.length)->Dp (λx s=>jZ es x s) l f=some (.go (f++l.filterMap λe=>(es[e.1]?).map (·.2)))
 | [],f,_,_=>by simp [Dp]
 | e::l,f,h,j=>by
  have he:=j e (by simp)
  simp only [List.length_cons]at h
  rw [Dp]
  have:jZ es e f=some (.go (f++[es[e.1].2])):=by
   unfold jZ
   rw [List.getElem?_eq_getElem he,ob_,gM _ _ (by simp;omega)];rfl
  rw [this,ob_]
  show Dp (λx s=>jZ es x s) l (f++[es[e.1].2])=_
  rw [told hl l _ (by simp;omega) (λx o=>j x (by simp [o])),List.filterMap_cons,List.getElem?_eq_getElem he]
  simp
theorem BZ {α β:Type} {f:α->Option β} {g:α->β}:∀{l:List α},(∀e∈l,f e=some (g e))->l.filterMap f=l.map g
 | [],_=>rfl
 | e::l,h=>by
  rw [List.filterMap_cons,h e (by simp),List.map_cons,BZ (λx j=>h x (List.mem_cons_of_mem _ j))]
theorem O4 {l:List Play} (h:VP l) (hl:l.length<=12) {zone:Int} (I : -1440<=zone/\zone<=1440) (Z:Od l=0):∃r,r9 l zone=some (r,0)/\r.Perm (Dc zone l):=by
 have T:=HY I l h.at_ h.lo
 have O:=T.len
 obtain ⟨r,W,r3⟩:=QN T (by omega)
 have o:∀(k:Nat) (x:Play),l[k]? = some x->l.take (k+1)=l.take k++[x]:=λk x j=>by rw [List.take_add_one,j];rfl
 have A:∀k:Nat,TT (l.take k).length (Dc zone (l.take k)):=λk=>HY I _ (λx j=>h.at_ x (List.mem_of_mem_take j)) (λx j=>h.lo x (List.mem_of_mem_take j))
 have J:∀k:Nat,(l.take k).length<=12:=λk=>by rw [List.length_take];omega
 refine⟨r,?_,W⟩
 ·unfold r9
  rw [Cf h.good (by omega),Z,ob_]
  simp only [bne_self_eq_false,cond_false,nk,rJ I,ob_]
  obtain ⟨es,e1,L⟩:=qA (body:=λk x s=>lF zone k x s) (λk s=>ES s (Dc zone (l.take k))) (xs:=l) (s:=([]:List (Tally×Tally))) (by omega) (λk x s j hI=>by
   have R:=List.mem_of_getElem? j
   have hkk:=J k
   obtain ⟨N,q1,q2⟩:=Q5 I (n:=(l.take k).length) (by omega) hI (A k) (h.at_ x R) (h.lo x R) k
   exact⟨N,q1,by rw [o k x j,OP];exact q2⟩) ⟨rfl,λe he=>by cases he⟩
  rw [List.take_length]at L
  rw [e1]
  simp only [ob_,thenC]
  have Y:es.length=(Dc zone l).length:=by rw [<- L.1,List.length_map]
  refine TZ (λB M => ?_)
  have F:∀e∈B,e.1<es.length:=λe he=>by
   have:=M.mem_iff.1 he
   unfold pmL at this
   obtain ⟨i,hi,rfl⟩:=List.getElem_of_mem this
   simp only [List.length_mapIdx]at hi
   simp only [List.getElem_mapIdx];exact hi
  have hll:B.length=es.length:=by rw [M.length_eq];unfold pmL;simp
  rw [told (by omega) B [] (by simp only [List.length_nil];omega) F]
  simp only [ob_,thenC,List.nil_append]
  have f:(B.filterMap λe=>(es[e.1]?).map (·.2)).Perm (Dc zone l):=by
   refine (M.filterMap _).trans (List.Perm.of_eq ?_)
   rw [<- L.1]
   have hf:(pmL es).filterMap (λe=>(es[e.1]?).map (·.2))=(pmL es).map (λe=>((es[e.1]?).map (·.2)).getD ⟨⟨#[]⟩,⟨#[]⟩,0,0,0⟩):=by
    refine BZ (λe he => ?_)
    unfold pmL at he
    obtain ⟨i,hi,rfl⟩:=List.getElem_of_mem he
    simp only [List.length_mapIdx]at hi
    simp only [List.getElem_mapIdx,List.getElem?_eq_getElem hi,Option.map_some,Option.getD_some]
   rw [hf]
   unfold pmL
   refine List.ext_getElem (by simp) (λi h1 h2 => ?_)
   simp only [List.length_map,List.length_mapIdx]at h1
   simp only [List.getElem_map,List.getElem_mapIdx,List.getElem?_eq_getElem h1,Option.map_some,Option.getD_some]
  rw [r3 _ f,ob_]
  have:fA r (B.filterMap λe=>(es[e.1]?).map (·.2))=some ():=by unfold fA;rw [if_pos (by rw [W.length_eq,f.length_eq])]
  rw [this];rfl
theorem maxJ_eq (a b:Int):jE a b=max a b:=by unfold jE;split <;> omega
def JW (h w:Play):Int:=max (h.At-w.At) (w.At-h.At)
theorem GX {h w:Play} (h1:0<=h.At/\h.At<=345686399999) (h2:0<=w.At/\w.At<=345686399999):nu h.At w.At=some (JW h w):=by
 unfold nu JW
 rw [maxJ_eq,dh (n:=h.At-w.At) (by omega),dh (n:=w.At-h.At) (by omega)]
theorem innerE {f:List Play} (N:∀x∈f,0<=x.At/\x.At<=345686399999) {w:Play} (B:0<=w.At/\w.At<=345686399999) {tk:List Bool} (R:tk.length=f.length) (hl:f.length<=1000) (h:List Match) (most:Int) :
  ∃s:Int,forL f (-1) (λk x s=>jG (tk,h) w most f k x s)=some (.go s) /\ -1<=s/\s<f.length:=by
 have key:∀(k:Nat) (x:Play) (s:Int),f[k]? = some x->(-1<=s/\s<f.length)->∃F,jG (tk,h) w most f k x s=some (.go F)/\(-1<=F/\F<f.length):=λk x s A hs=>by
  have W:k<f.length:=(List.getElem?_eq_some_iff.1 A).1
  have M:=N x (List.mem_of_getElem? A)
  have J:tk[k]? = some (tk[k]'(by omega)):=List.getElem?_eq_getElem (by omega)
  generalize (tk[k]'(by omega))=t0 at J
  have O:((bif t0 then some true else bif (sNe x.Player w.Player)then some true else bif (sNe x.Item w.Item)then some true else (nu x.At w.At).bind λo=>some (decide (o>most))))=some (t0||(sNe x.Player w.Player||(sNe x.Item w.Item||decide (JW x w>most)))):=by
   rw [GX M B]
   cases t0 <;> cases sNe x.Player w.Player <;> cases sNe x.Item w.Item <;> rfl
  unfold jG
  rw [zx (xs:=tk) (i:=(k:Int)) (by omega) (by omega),ob_,show 0+((k:Int)).toNat=k by omega,J,ob_,O,ob_]
  generalize T:(t0||(sNe x.Player w.Player||(sNe x.Item w.Item||decide (JW x w>most))))=L
  cases L with
  | true=>exact⟨s,rfl,hs⟩
  | false =>
   simp only [cond_false]
   by_cases hneg:s<0
   ·rw [decide_eq_true hneg]
    exact⟨(k:Int),rfl,by omega⟩
   ·rw [decide_eq_false hneg]
    obtain ⟨j,rfl⟩:∃j:Nat,s=j:=⟨s.toNat,by omega⟩
    have hj:f[j]? = some (f[j]'(by omega)):=List.getElem?_eq_getElem (by omega)
    have I:=N _ (List.getElem_mem (show j<f.length by omega))
    simp only [cond_false,l8,hj,ob_,GX M B,GX I B]
    cases decide (JW x w<JW (f[j]'(by omega)) w)with
    | true=>exact⟨(k:Int),rfl,by omega⟩
    | false=>exact⟨(j:Int),rfl,by omega⟩
 obtain ⟨s,a,b⟩:=qA (body:=λk x s=>jG (tk,h) w most f k x s) (λ_ s => -1<=s/\s<f.length) (xs:=f) (s:=(-1:Int)) (by omega) (λk x s A hs=>key k x s A hs) (by omega)
 exact⟨s,a,b⟩
theorem Q8 {f h:List Play} (M:VP f) (Z:VP h) (F:fB f=some 0) (B:fB h=some 0) (N:f.length<=100) (hl:h.length<=100) {most:Int} (O:0<=most/\most<=86400000) :
  ∃j left,qc f h most=some (j,left,0)/\j.length<=100:=by
 obtain ⟨u,W,u2,u3⟩:=qA (body:=λk x s=>mO h most k x s) (λk s=>s.1.length=h.length/\s.2.length=k) (xs:=f) (s:=(List.replicate h.length false,([]:List Match))) (by omega) (λk x s o ⟨A,Y⟩=>by
  have I:=(List.getElem?_eq_some_iff.1 o).1
  obtain ⟨tk,j⟩:=s
  simp only []at A Y
  obtain ⟨m,L,a2,a3⟩:=innerE Z.at_ (M.at_ x (List.mem_of_getElem? o)) A (by omega) j most
  unfold mO
  rw [L]
  simp only [ob_,thenC]
  by_cases hs:m>=0
  ·have R:tk[0+m.toNat]? = some (tk[0+m.toNat]'(by omega)):=List.getElem?_eq_getElem (by omega)
   rw [decide_eq_true hs,cond_true,zx (xs:=tk) (i:=m) (by omega) (by omega),ob_,R,ob_,ob_,gM _ _ (by simp;omega)]
   exact⟨_,rfl,by rw [List.length_set];exact A,by simp;omega⟩
  ·rw [decide_eq_false hs,cond_false,ob_,gM _ _ (by simp;omega)]
   exact⟨_,rfl,A,by simp;omega⟩) ⟨by simp,rfl⟩
 obtain ⟨left,l1,_⟩:=qA (body:=λk x s=>mg k x s) (λk s=>s.length<=k) (xs:=u.1) (s:=([]:List Int)) (by omega) (λk x s o hs=>by
  have I:=(List.getElem?_eq_some_iff.1 o).1
  unfold mg
  cases x with
  | true=>exact⟨s,rfl,by omega⟩
  | false =>
   rw [Bool.not_false,cond_true,gM _ _ (by simp;omega)]
   exact⟨_,rfl,by simp;omega⟩) (by simp)
 refine⟨u.2,left,?_,by omega⟩
 unfold qc
 have T:forL (List.range (2:Int).toNat) () (λk x s=>iT f h k x s)=some (.go ()):=by
  rw [jX (by simp)]
  have a0:iT f h 0 0 ()=some (.go ()):=by
   unfold iT
   have:idx ([f,h]:List (List Play)) ((0:Nat):Int)=some f:=rfl
   rw [this,ob_,F];rfl
  have L:iT f h (0+1) 1 ()=some (.go ()):=by
   unfold iT
   have:idx ([f,h]:List (List Play)) ((0+1:Nat):Int)=some h:=rfl
   rw [this,ob_,B];rfl
  have er:List.range (2:Int).toNat=[0,1]:=rfl
  rw [er]
  simp only [forR,a0,L,ob_]
 rw [T]
 simp only [ob_,thenC,nk,rJ O,cond_false]
 have J:mkN (h.length:Int) 1=some h.length:=by
  unfold mkN
  rw [if_pos (by omega)];simp
 rw [J,ob_,W]
 simp only [ob_,thenC,l1]
theorem rootIt:∀(m:Nat) (l:List ByteArray),l.length=m->0<m->m<=1000000->(∀x∈l,ShortK x)->∃n r,ShortK r/\iterN (λs=>lW s) n l=some (.go [r]):=by
 intro m
 induction m using Nat.strongRecOn with
 | ind m j =>
  intro l hl A B hs
  by_cases h1:1<m
  ·have h:decide ((l.length:Int)>1)=true:=decide_eq_true (by omega)
   obtain ⟨n,r,o,h2⟩:=j ((m+1) / 2) (by omega) (ma l) (by rw [Am,hl]) (by omega) (by omega) (xP l hs)
   refine⟨n+1,r,o,?_⟩
   have f:lW l=some (.go (ma l)):=by
    unfold lW
    rw [h,Qf l (by omega) hs];rfl
   simp only [iterN,f,ob_];exact h2
  ·have h:decide ((l.length:Int)>1)=false:=decide_eq_false (by omega)
   obtain ⟨r,rfl⟩:∃r,l=[r]:=List.length_eq_one_iff.1 (by omega)
   refine⟨1,r,hs r (by simp),?_⟩
   simp only [iterN]
   unfold lW
   rw [h];rfl
theorem rootOk (l:List Log_) (h:∀x∈l,wR x) (hl:l.length<=1000000) (j:EP l=0):∃r,ShortK r/\wm l=some (r,0):=by
 unfold wm
 rw [Qq l h hl,PM l h hl,j]
 simp only [ob_,bne_self_eq_false,cond_false]
 cases l with
 | nil =>
  refine⟨mk [],wy _,?_⟩
  have f:(((List.map BR ([]:List Log_)).length:Int)==0)=true:=rfl
  rw [f]
  simp only [cond_true]
  rw [show (⟨#[]⟩:ByteArray)=BB [] from rfl,Ub [] (by simp)]
  simp only [ob_]
 | cons x l =>
  obtain ⟨n,r,A,h2⟩:=rootIt _ ((x::l).map BR) rfl (by simp) (by simpa using hl) (λy o=>by obtain ⟨z,_,rfl⟩:=List.mem_map.1 o;exact Ar z)
  have f:(((List.map BR (x::l)).length:Int)==0)=false:=by simp;omega
  refine⟨r,A,?_⟩
  rw [f]
  simp only [cond_false]
  rw [dB h2]
  rfl
theorem pathIt:∀(m:Nat) (l:List ByteArray) (i:Nat) (f:List ByteArray),l.length=m->0<m->m<=1000000->i<m->(∀x∈l,ShortK x)->(∀x∈f,ShortK x)->f.length+m<=10000000 ->
  ∃n s,iterN (λs=>kJ s) n (f,(i:Int),l)=some (.go s)/\(∀x∈s.1,ShortK x)/\s.1.length<=10000000:=by
 intro m
 induction m using Nat.strongRecOn with
 | ind m O =>
  intro l i f hl Y Z hi hs ho W
  by_cases h1:1<m
  ·have L:decide ((l.length:Int)>1)=true:=decide_eq_true (by omega)
   obtain ⟨j,hj,N⟩:=xor1 (i:=i) (by omega)
   have I:w64 ((i:Int).tdiv 2)=((i / 2:Nat):Int):=by
    rw [show (i:Int).tdiv 2=((i / 2:Nat):Int) from rfl,dh (by omega)]
   obtain ⟨h,J,M,R⟩:∃h:List ByteArray,(∀x∈h,ShortK x)/\h.length<=f.length+1/\(bif (decide ((j:Int)<(l.length:Int)))then (idx l (j:Int)).bind λF=>(kr f ([F]:List ByteArray)).bind λB=>some B else some f)=some h:=by
    by_cases hjl:j<l.length
    ·rw [decide_eq_true (show (j:Int)<(l.length:Int) by omega),Kl hjl]
     simp only [cond_true,ob_]
     rw [gM _ _ (by simp;omega)]
     refine⟨f++[l[j]],λx A => ?_,by simp,rfl⟩
     rcases List.mem_append.1 A with A|A
     ·exact ho x A
     ·rw [List.mem_singleton.1 A];exact hs _ (List.getElem_mem _)
    ·rw [decide_eq_false (show ¬(j:Int)<(l.length:Int) by omega)]
     exact⟨f,ho,by omega,rfl⟩
   obtain ⟨n,s,h2,T⟩:=O ((m+1) / 2) (by omega) (ma l) (i / 2) h (by rw [Am,hl]) (by omega) (by omega) (by omega) (xP l hs) J (by omega)
   refine⟨n+1,s,?_,T⟩
   have o:kJ (f,(i:Int),l)=some (.go (h,((i / 2:Nat):Int),ma l)):=by
    unfold kJ
    simp only [L,cond_true,hj,I]
    rw [R]
    simp only [ob_]
    rw [Qf l (by omega) hs];rfl
   simp only [iterN,o,ob_];exact h2
  ·have L:decide ((l.length:Int)>1)=false:=decide_eq_false (by omega)
   refine⟨1,(f,(i:Int),l),?_,ho,by show f.length<=_;omega⟩
   simp only [iterN]
   unfold kJ
   simp only [L,cond_false,ob_]
theorem pathOk (l:List Log_) (h:∀x∈l,wR x) (hl:l.length<=1000) (B:EP l=0):∃p e,(∀x∈p,ShortK x)/\p.length<=10000000/\wU l 0=some (p,e):=by
 unfold wU
 rw [Qq l h (by omega),PM l h (by omega),B]
 simp only [ob_,nk,bne_self_eq_false,cond_false]
 rw [dh (by omega)]
 cases ho:l7 0 0 ((l.length:Int)-1)with
 | true=>exact⟨[],_,(λx o=>by cases o),by simp,rfl⟩
 | false =>
  have hb:=Bd ho
  obtain ⟨n,s,h1,A,F⟩:=pathIt _ (l.map BR) 0 [] rfl (by simp;omega) (by rw [List.length_map];omega) (by rw [List.length_map];omega) (λy I=>by obtain ⟨z,_,rfl⟩:=List.mem_map.1 I;exact Ar z) (λx o=>by cases o) (by rw [List.length_map];simp;omega)
  refine⟨s.1,0,A,F,?_⟩
  show ((dS (([]:List ByteArray),((0:Nat):Int),List.map BR l) (λs=>kJ s)).bind λj=>thenC j (λf=>some (f.1,(0:Int))) (λ_=>none))=_
  rw [dB h1];rfl
theorem Ug:∀(m:Nat) (i:Nat) (f:List ByteArray) (at_:ByteArray),m<=1000000->i<m->(∀x∈f,ShortK x)->ShortK at_->f.length<=100000000 ->
  (∃n s,iterN (λs=>fe s) n ((m:Int),(i:Int),f,at_)=some (.go s)) \/
  (∃n,iterN (λs=>fe s) n ((m:Int),(i:Int),f,at_)=some (.ret (false,0))):=by
 intro m
 induction m using Nat.strongRecOn with
 | ind m Y =>
  intro i f at_ hm hi W T J
  by_cases h1:1<m
  ·have N:decide ((m:Int)>1)=true:=decide_eq_true (by omega)
   obtain ⟨j,hj,hj2⟩:=xor1 (i:=i) (by omega)
   have B:w64 ((i:Int).tdiv 2)=((i / 2:Nat):Int):=by
    rw [show (i:Int).tdiv 2=((i / 2:Nat):Int) from rfl,dh (by omega)]
   have o:w64 ((w64 ((m:Int)+1)).tdiv 2)=(((m+1) / 2:Nat):Int):=by
    rw [dh (n:=(m:Int)+1) (by omega),show ((m:Int)+1).tdiv 2=(((m+1) / 2:Nat):Int) from rfl,dh (by omega)]
   by_cases hjm:m<=j
   ·have A:decide ((j:Int)>=(m:Int))=true:=decide_eq_true (by omega)
    have M:fe ((m:Int),(i:Int),f,at_)=some (.go ((((m+1) / 2:Nat):Int),((i / 2:Nat):Int),f,at_)):=by
     unfold fe
     simp only [N,cond_true,hj,A,B,o]
    rcases Y ((m+1) / 2) (by omega) (i / 2) f at_ (by omega) (by omega) W T J with⟨n,s,h2⟩|⟨n,h2⟩
    ·exact .inl ⟨n+1,s,by simp only [iterN,M,ob_];exact h2⟩
    ·exact .inr ⟨n+1,by simp only [iterN,M,ob_];exact h2⟩
   ·have A:decide ((j:Int)>=(m:Int))=false:=decide_eq_false (by omega)
    cases f with
    | nil =>
     refine .inr ⟨1,?_⟩
     simp only [iterN]
     unfold fe
     simp only [N,cond_true,hj,A,cond_false]
     rfl
    | cons p f =>
     have e0:(((p::f).length:Int)==0)=false:=by simp;omega
     have e1:idx (p::f) 0=some p:=rfl
     have e2:Mm (p::f) 1 ((p::f).length:Int)=some f:=by
      unfold Mm
      rw [if_pos ⟨by omega,by omega,by simp,by simp⟩]
      simp
     have F:=W p (by simp)
     have O:(i:Int).tmod 2=((i % 2:Nat):Int):=rfl
     obtain ⟨h,R,c1⟩:∃h:ByteArray,ShortK h/\(bif (((i % 2:Nat):Int)==1)then (nE p at_).bind λI=>some I else (nE at_ p).bind λL=>some L)=some h:=by
      rw [SE F T,SE T F]
      rcases Nat.mod_two_eq_zero_or_one i with h2|h2
      ·rw [h2];exact⟨_,Ae _ _,rfl⟩
      ·rw [h2];exact⟨_,Ae _ _,rfl⟩
     have M:fe ((m:Int),(i:Int),p::f,at_)=some (.go ((((m+1) / 2:Nat):Int),((i / 2:Nat):Int),f,h)):=by
      unfold fe
      simp only [N,cond_true,hj,A,cond_false,e0,e1,e2,O,ob_,B,o]
      rw [c1];rfl
     simp only [List.length_cons]at J
     rcases Y ((m+1) / 2) (by omega) (i / 2) f h (by omega) (by omega) (λx Z=>W x (List.mem_cons_of_mem _ Z)) R (by omega)with⟨n,s,h2⟩|⟨n,h2⟩
     ·exact .inl ⟨n+1,s,by simp only [iterN,M,ob_];exact h2⟩
     ·exact .inr ⟨n+1,by simp only [iterN,M,ob_];exact h2⟩
  ·have N:decide ((m:Int)>1)=false:=decide_eq_false (by omega)
   refine .inl ⟨1,((m:Int),(i:Int),f,at_),?_⟩
   simp only [iterN]
   unfold fe
   simp only [N,cond_false,ob_]
theorem Ia (f:ByteArray->Option Bool) (g:ByteArray->Bool):∀(l:List ByteArray) (k:Nat),(∀x∈l,f x=some (g x))->∃c,forR (λk x s=>bT f k x s) l k ()=some c /\
  (l.any g=true->∃j:Nat,c = .ret (j:Int))/\(l.any g=false->c = .go ())
 | [],k,h=>⟨_,rfl,(λh=>by cases h),λ_=>rfl⟩
 | x::l,k,h=>by
  obtain ⟨c,h1,h2,A⟩:=Ia f g l (k+1) (λy B=>h y (List.mem_cons_of_mem _ B))
  cases hg:g x with
  | true =>
   refine⟨.ret (k:Int),?_,λ_=>⟨k,rfl⟩,λh=>by simp [hg]at h⟩
   simp only [forR]
   unfold bT
   rw [h x (by simp),hg];rfl
  | false =>
   refine⟨c,?_,λh=>h2 (by simpa [hg]using h),λh=>A (by simpa [hg]using h)⟩
   have o:bT f k x ()=some (.go ()):=by
    unfold bT
    rw [h x (by simp),hg];rfl
   simp only [forR,o,ob_]
   exact h1
theorem Jj (l:List ByteArray) (f:ByteArray->Option Bool) (g:ByteArray->Bool) (hl:l.length<=1000000000) (h:∀x∈l,f x=some (g x)):dE l f=some (l.any g):=by
 unfold dE gy
 obtain ⟨c,h1,h2,o⟩:=Ia f g l 0 h
 rw [jX (by omega),h1]
 cases ha:l.any g with
 | true =>
  obtain ⟨j,rfl⟩:=h2 ha
  simp only [ob_,J7]
  have:decide ((j:Int)>=0)=true:=decide_eq_true (by omega)
  rw [this]
 | false =>
  rw [o ha];rfl
def J6 (h:ByteArray) (many i:Int) (y:Log_) (f:List ByteArray):Int :=
 bif !ug h then 3 else bif (l7 many 1 2000||l7 i 0 (many-1))then 1 else bif vU y != 0 then vU y else bif (!ug y.Sum||f.any λm => !ug m)then 3 else 0
theorem Rz (h:ByteArray) (many i:Int) (y:Log_) (f:List ByteArray) (I:ShortK h) (J : -1000000<=many/\many<=1000000) (j:wR y) (F:∀x∈f,ShortK x) (hl:f.length<=1000000000) :
  lT h many i y f=some (J6 h many i y f):=by
 have hc:=Jj f (λB=>kC B) (λm => !ug m) hl (λx o=>by
  unfold kC
  rw [Bh (F x o)];rfl)
 unfold lT J6
 rw [Bh I,Bh j.2.2.1,E9 j,hc,dh (by omega)]
 simp only [ob_,nk]
 generalize (f.any λm => !ug m)=A
 cases ug h <;> cases l7 many 1 2000 <;> cases l7 i 0 (many-1) <;> cases (vU y != 0) <;> cases ug y.Sum <;> cases A <;> rfl
theorem Us (h:ByteArray) (many i:Int) (y:Log_) (f:List ByteArray) (B:ShortK h) (A : -1000000<=many/\many<=1000000) (o:wR y) (j:∀x∈f,ShortK x) (hl:f.length<=100000000) :
  ∃v,pO h many i y f=some v:=by
 unfold pO
 rw [Rz h many i y f B A o j (by omega),leafP o]
 simp only [ob_]
 by_cases hf:J6 h many i y f=0
 ·have hb:l7 many 1 2000=false/\l7 i 0 (many-1)=false:=by
   unfold J6 at hf
   cases h1:ug h <;> cases h2:l7 many 1 2000 <;> cases h3:l7 i 0 (many-1) <;> rw [h1,h2,h3]at hf <;> simp at hf ⊢
  have I:=Bd hb.1
  have F:=Bd hb.2
  have e:(J6 h many i y f != 0)=false:=by simp [hf]
  rw [e]
  simp only [cond_false]
  obtain ⟨m,rfl⟩:∃m:Nat,many=m:=⟨many.toNat,by omega⟩
  obtain ⟨k,rfl⟩:∃k:Nat,i=k:=⟨i.toNat,by omega⟩
  rcases Ug m k f (BR y) (by omega) (by omega) j (Ar y) hl with⟨n,s,h1⟩|⟨n,h1⟩
  ·rw [dB h1]
   simp only [ob_,jf]
   cases ((s.2.2.1.length:Int)==0) <;> exact⟨_,rfl⟩
  ·rw [dB h1]
   exact⟨_,rfl⟩
 ·have e:(J6 h many i y f != 0)=true:=by simp [hf]
  rw [e]
  exact⟨_,rfl⟩
theorem cloneSE (l:List ByteArray) (hl:l.length<=1000000000):fT l=some l:=by
 unfold fT
 rw [gM [] l (by simpa using hl)]
 simp
def yc {σ ρ:Type} (s:σ) (body:σ->Option (Ctl σ ρ)):Option (Ctl σ ρ):=iterN body 300 s
def Le {α:Type} (a b:Option α):Prop:=∀r,a=some r->b=some r
theorem Le.refl {α:Type} (a:Option α):Le a a:=λ_ h=>h
theorem Le.bind {α β:Type} {a b:Option α} {f g:α->Option β} (h:Le a b) (k:∀x,Le (f x) (g x)):Le (a.bind f) (b.bind g):=λr e=>by
 obtain ⟨x,h1,h2⟩:=Option.bind_eq_some_iff.1 e
 rw [h x h1];exact k x r h2
theorem Le.cond {α:Type} {a b c d:Option α} {t:Bool} (h:Le a c) (k:Le b d):Le (bif t then a else b) (bif t then c else d):=by
 cases t
 ·exact k
 ·exact h
theorem Le.thenC {σ ρ τ:Type} {o:Ctl σ ρ} {f j:σ->Option τ} {g A:ρ->Option τ} (h:∀x,Le (f x) (j x)) (k:∀x,Le (g x) (A x)):Le (Go.Eng.thenC o f g) (Go.Eng.thenC o j A):=by
 cases o
 ·exact h _
 ·exact Le.refl _
 ·exact k _
theorem Le.forR {α σ ρ:Type} {b b':Nat->α->σ->Option (Ctl σ ρ)} (h:∀k x s,Le (b k x s) (b' k x s)):∀(xs:List α) (k:Nat) (s:σ),Le (Go.Eng.forR b xs k s) (Go.Eng.forR b' xs k s)
 | [],k,s=>Le.refl _
 | x::xs,k,s=>Le.bind (h k x s) (λc=>by
   cases c with
   | go f=>exact Le.forR h xs _ _
   | brk f=>exact Le.refl _
   | ret r=>exact Le.refl _)
theorem Le.forL {α σ ρ:Type} {xs:List α} {s:σ} {b b':Nat->α->σ->Option (Ctl σ ρ)} (h:∀k x s,Le (b k x s) (b' k x s)):Le (Go.Eng.forL xs s b) (Go.Eng.forL xs s b'):=by
 unfold Go.Eng.forL
 split
 ·exact Le.forR h xs 0 s
 ·exact Le.refl _
theorem Le.iterN {σ ρ:Type} {b b':σ->Option (Ctl σ ρ)} (h:∀s,Le (b s) (b' s)):∀(n:Nat) (s:σ),Le (Go.Eng.iterN b n s) (Go.Eng.iterN b' n s)
 | 0,s=>Le.refl _
 | n+1,s=>Le.bind (h s) (λc=>by
   cases c with
   | go f=>exact Le.iterN h n f
   | brk f=>exact Le.refl _
   | ret r=>exact Le.refl _)
theorem Le.loop {σ ρ:Type} {s:σ} {b b':σ->Option (Ctl σ ρ)} (h:∀s,Le (b s) (b' s)):Le (yc s b) (dS s b'):=λr e=>dB (Le.iterN h _ _ r e)
def Q6 (x:Int):List Int->List Int
 | []=>[x]
 | y::l=>bif decide (x<=y)then x::y::l else y::Q6 x l
def Ir:List Int->List Int
 | []=>[]
 | x::l=>Q6 x (Ir l)
theorem EN (x:Int):∀l,(Q6 x l).Perm (x::l)
 | [] => .refl _
 | y::l=>by
  unfold Q6
  cases decide (x<=y)with
  | true=>exact .refl _
  | false=>exact ((EN x l).cons y).trans (List.Perm.swap x y l)
theorem EZ:∀l,(Ir l).Perm l
 | [] => .refl _
 | x::l=>(EN x _).trans ((EZ l).cons x)
theorem EX (x:Int):∀l:List Int,l.Pairwise (· <= ·)->(Q6 x l).Pairwise (· <= ·)
 | [],_=>List.pairwise_singleton _ _
 | y::l,h=>by
  obtain ⟨h1,h2⟩:=List.pairwise_cons.1 h
  unfold Q6
  by_cases hx:x<=y
  ·rw [decide_eq_true hx,cond_true]
   exact List.pairwise_cons.2 ⟨λz f=>by
    rcases List.mem_cons.1 f with rfl|f
    ·exact hx
    ·exact Int.le_trans hx (h1 z f),h⟩
  ·rw [decide_eq_false hx,cond_false]
   exact List.pairwise_cons.2 ⟨λz f=>by
    rcases List.mem_cons.1 ((EN x l).mem_iff.1 f)with rfl|f
    ·omega
    ·exact h1 z f,EX x l h2⟩
theorem Ce:∀l,(Ir l).Pairwise (· <= ·)
 | [] => .nil
 | x::l=>EX x _ (Ce l)
theorem Rk (l:List Int):l.mergeSort (λx y=>decide (x<=y))=Ir l:=by
 refine List.Perm.eq_of_pairwise (le:=(· <= ·)) (λa b _ _ h1 h2=>Int.le_antisymm h1 h2) ?_ (Ce l) ((List.mergeSort_perm l _).trans (EZ l).symm)
 have:=List.pairwise_mergeSort (le:=λ(x y:Int)=>decide (x<=y)) (λa b c=>by simp;omega) (λa b=>by simp;omega) l
 exact this.imp (by simp)
def Ua (l:List Int):Option (List Int):=bif Nat.ble l.length 1000 then some (Ir l)else none
theorem Uv (l:List Int):Le (Ua l) (dw l):=λr h=>by
 unfold Ua at h
 cases hb:Nat.ble l.length 1000 with
 | false=>rw [hb]at h;cases h
 | true =>
  rw [hb,cond_true]at h
  have:=Nat.le_of_ble_eq_true hb
  unfold dw Kg
  rw [if_pos (by omega),Rk];exact h
set_option maxRecDepth 100000
def jI (f:ByteArray):Option (Bool) :=
 (yc 0 (λs=>lM f s)).bind λj=>thenC j (λo=>(bif (sNe f (⟨#[]⟩:ByteArray))then some (decide ((f.size:Int)<=40))else some false).bind λh=>some h) (λr=>some r)
theorem lV (f:ByteArray):Le (jI f) (ek f):=by
 unfold jI ek
 repeat' (with_reducible first|exact Le.refl _|refine Le.loop (λ_=>?_)|refine Le.thenC (λ_=>?_) (λ_=>?_)|refine Le.cond ?_ ?_|refine Le.bind ?_ (λ_=>?_))
def jR (j:(List Int)) (h:Int):Option (Ctl (Int) ((List Int))) :=
 bif (decide (h<(j.length:Int)))then (inR h j).bind λ_=>(j[(0+(h).toNat)]?).bind λo=>(inR (w64 (h-1)) j).bind λ_=>(j[(0+((w64 (h-1))).toNat)]?).bind λA=>bif (o==A)then (neL j).bind λ_=>(xU j h (j.length:Int)).bind λ_=>(yc (j,h,1) (λs=>iH j h s)).bind λB=>thenC B (λf=>(xU f.1 f.2.1 (f.1.length:Int)).bind λ_=>(xU (f.1.take ((f.2.1).toNat)++List.replicate (((f.1.length:Int)).toNat-(f.2.1).toNat) 0++f.1.drop (((f.2.1).toNat)+(((f.1.length:Int)).toNat-(f.2.1).toNat))) 0 f.2.1).bind λ_=>some (.ret (FZ (f.1.take ((f.2.1).toNat)++List.replicate (((f.1.length:Int)).toNat-(f.2.1).toNat) 0++f.1.drop (((f.2.1).toNat)+(((f.1.length:Int)).toNat-(f.2.1).toNat))) 0 ((f.2.1).toNat)))) (λ_=>none)else some (.go (w64 (h+1)))else some (.brk h)
theorem sD (h:(List Int)) (f:Int):Le (jR h f) (eY h f):=by
 unfold jR eY
 repeat' (with_reducible first|exact Le.refl _|refine Le.loop (λ_=>?_)|refine Le.thenC (λ_=>?_) (λ_=>?_)|refine Le.cond ?_ ?_|refine Le.bind ?_ (λ_=>?_))
def kM (f:(List Int)):Option ((List Int)) :=
 bif (decide ((f.length:Int)<2))then some f else (yc 1 (λs=>jR f s)).bind λh=>thenC h (λj=>some f) (λr=>some r)
theorem uO (f:(List Int)):Le (kM f) (gN f):=by
 unfold kM gN
 repeat' (with_reducible first|exact Le.refl _|exact sD _ _|refine Le.loop (λ_=>?_)|refine Le.thenC (λ_=>?_) (λ_=>?_)|refine Le.cond ?_ ?_|refine Le.bind ?_ (λ_=>?_))
def dR (o:Int) (A:Int) (f:(List Run)×Int):Option (Ctl ((List Run)×Int) (Unit)) :=
 bif (decide (f.2<o))then (yc (f.1,f.2) (λs=>di A s)).bind λj=>thenC j (λh=>some (.go (h.1,(w64 (f.2+1))))) (λ_=>none)else some (.brk (f.1,f.2))
theorem lN (h:Int) (j:Int) (f:(List Run)×Int):Le (dR h j f) (bO h j f):=by
 unfold dR bO
 repeat' (with_reducible first|exact Le.refl _|refine Le.loop (λ_=>?_)|refine Le.thenC (λ_=>?_) (λ_=>?_)|refine Le.cond ?_ ?_|refine Le.bind ?_ (λ_=>?_))
def eQ (f:(List Run)) (h:Int) (A:Int):Option ((List Run)) :=
 (yc (f,(w64 (h+1))) (λs=>dR A h s)).bind λo=>thenC o (λj=>some j.1) (λ_=>none)
theorem mG (f:(List Run)) (j:Int) (h:Int):Le (eQ f j h) (bW f j h):=by
 unfold eQ bW
 repeat' (with_reducible first|exact Le.refl _|exact lN _ _ _|refine Le.loop (λ_=>?_)|refine Le.thenC (λ_=>?_) (λ_=>?_)|refine Le.bind ?_ (λ_=>?_))
def fH (o:Int) (A:Int) (f:(List Run)) (h:Int) (B:Unit):Option (Ctl (Unit) ((List Run))) :=
 bif (decide ((w64 (o-A))<=12))then (eQ f A o).bind λj=>(fA j f).bind λ_=>some (.ret j)else bif (h==0)then none else none
theorem nO (o:Int) (A:Int) (h:(List Run)) (f:Int) (j:Unit):Le (fH o A h f j) (cZ o A h f j):=by
 unfold fH cZ
 repeat' (with_reducible first|exact Le.refl _|exact mG _ _ _|refine Le.cond ?_ ?_|refine Le.bind ?_ (λ_=>?_))
def gU (f:(List Run)) (A:Int) (o:Int) (h:Int):Option ((List Run)) :=
 (yc () (λs=>fH o A f h s)).bind λj=>thenC j (λB=>some f) (λr=>some r)
theorem oV (h:(List Run)) (o:Int) (j:Int) (f:Int):Le (gU h o j f) (dx h o j f):=by
 unfold gU dx
 repeat' (with_reducible first|exact Le.refl _|exact nO _ _ _ _ _|refine Le.loop (λ_=>?_)|refine Le.thenC (λ_=>?_) (λ_=>?_)|refine Le.bind ?_ (λ_=>?_))
def fo (f:(List Run)):Option ((List Run)) :=
 (kI (IntKind.u64.wrap (f.length:Int))).bind λj=>(gU f 0 (f.length:Int) j).bind λh=>(fA h f).bind λ_=>some h
theorem mY (f:(List Run)):Le (fo f) (bX f):=by
 unfold fo bX
 repeat' (with_reducible first|exact Le.refl _|exact oV _ _ _ _|refine Le.bind ?_ (λ_=>?_))
def vC (B:(List Rect)) (F:Int):Option ((List Run)) :=
 (forL B ([]:List Run) (λk x s=>rY F k x s)).bind λj=>thenC j (λh=>(fo h).bind λf=>(fA f h).bind λ_=>(forL f ([]:List Run) (λk x s=>rQ k x s)).bind λo=>thenC o (λA=>some A) (λ_=>none)) (λ_=>none)
theorem GI (f:(List Rect)) (h:Int):Le (vC f h) (qQ f h):=by
 unfold vC qQ
 repeat' (with_reducible first|exact Le.refl _|exact mY _|refine Le.forL (λ_ _ _=>?_)|refine Le.thenC (λ_=>?_) (λ_=>?_)|refine Le.bind ?_ (λ_=>?_))
def uS (B:(List Run)) (L:Nat) (h:Run) (o:(List Run)×Int):Option (Ctl ((List Run)×Int) (Unit)) :=
 (yc o.2 (λs=>rV B h s)).bind λJ=>thenC J (λj=>(yc (o.1,j,h.f_from) (λs=>su B h s)).bind λA=>thenC A (λf=>(bif (decide (f.2.2<h.f_to))then (kr f.1 ([(⟨f.2.2,h.f_to⟩:Run)]:List Run)).bind λI=>some I else some f.1).bind λF=>some (.go (F,j))) (λ_=>none)) (λ_=>none)
theorem DD (f:(List Run)) (o:Nat) (j:Run) (h:(List Run)×Int):Le (uS f o j h) (oN f o j h):=by
 unfold uS oN
 repeat' (with_reducible first|exact Le.refl _|refine Le.loop (λ_=>?_)|refine Le.thenC (λ_=>?_) (λ_=>?_)|refine Le.cond ?_ ?_|refine Le.bind ?_ (λ_=>?_))
def zf (h:(List Run)) (j:(List Run)):Option ((List Run)) :=
 (forL h (([]:List Run),0) (λk x s=>uS j k x s)).bind λf=>thenC f (λo=>some o.1) (λ_=>none)
theorem G5 (f:(List Run)) (h:(List Run)):Le (zf f h) (ut f h):=by
 unfold zf ut
 repeat' (with_reducible first|exact Le.refl _|exact DD _ _ _ _|refine Le.forL (λ_ _ _=>?_)|refine Le.thenC (λ_=>?_) (λ_=>?_)|refine Le.bind ?_ (λ_=>?_))
def rP (o:(List Int)) (N:(List Rect)) (O:(List Rect)) (F:Nat) (h:Int) (f:(List Rect)×(List Run)×Int):Option (Ctl ((List Rect)×(List Run)×Int) (Unit)) :=
 (bif (decide ((w64 ((F:Int)+1))<(o.length:Int)))then (vC N h).bind λM=>(vC O h).bind λB=>(zf M B).bind λJ=>some J else some ([]:List Run)).bind λj=>(eT f.2.1 j).bind λL=>bif L then some (.go (f.1,f.2.1,f.2.2))else (forL f.2.1 f.1 (λk x s=>pu f h k x s)).bind λA=>thenC A (λI=>some (.go (I,j,h))) (λ_=>none)
theorem BN (f:(List Int)) (A:(List Rect)) (B:(List Rect)) (o:Nat) (j:Int) (h:(List Rect)×(List Run)×Int):Le (rP f A B o j h) (mK f A B o j h):=by
 unfold rP mK
 repeat' (with_reducible first|exact Le.refl _|exact GI _ _|exact G5 _ _|refine Le.forL (λ_ _ _=>?_)|refine Le.thenC (λ_=>?_) (λ_=>?_)|refine Le.cond ?_ ?_|refine Le.bind ?_ (λ_=>?_))
def vW (o:(List Rect)) (F:(List Rect)):Option ((List Rect)) :=
 (fO ([o,F]:List (List Rect))).bind λJ=>(forL J ([]:List Int) (λk x s=>pJ k x s)).bind λI=>thenC I (λh=>(Ua h).bind λj=>(fA j h).bind λ_=>(kM j).bind λf=>(forL f (([]:List Rect),([]:List Run),0) (λk x s=>rP f o F k x s)).bind λA=>thenC A (λB=>some B.1) (λ_=>none)) (λ_=>none)
theorem Eg (f:(List Rect)) (h:(List Rect)):Le (vW f h) (qh f h):=by
 unfold vW qh
 repeat' (with_reducible first|exact Le.refl _|exact uO _|exact BN _ _ _ _ _ _|exact Uv _|refine Le.forL (λ_ _ _=>?_)|refine Le.thenC (λ_=>?_) (λ_=>?_)|refine Le.bind ?_ (λ_=>?_))
def zb (f:(List Rect)):Option (Int×Int) :=
 (nW f).bind λh=>bif (h != 0)then some (0,h)else (vW f ([]:List Rect)).bind λo=>(xD o).bind λj=>some (j,0)
theorem Iu (f:(List Rect)):Le (zb f) (uh f):=by
 unfold zb uh
 repeat' (with_reducible first|exact Le.refl _|exact Eg _ _|refine Le.cond ?_ ?_|refine Le.bind ?_ (λ_=>?_))
def qa (B:(List ByteArray)) (f:Nat) (o:ByteArray) (F:Unit):Option (Ctl (Unit) (Int)) :=
 (jI o).bind λA=>bif (!A)then some (.ret 5)else (bif (decide ((f:Int)>0))then (idx B (w64 ((f:Int)-1))).bind λh=>some (sLe o h)else some false).bind λj=>bif j then some (.ret 7)else some (.go ())
theorem zP (f:(List ByteArray)) (h:Nat) (o:ByteArray) (j:Unit):Le (qa f h o j) (kQ f h o j):=by
 unfold qa kQ
 repeat' (with_reducible first|exact Le.refl _|exact lV _|refine Le.cond ?_ ?_|refine Le.bind ?_ (λ_=>?_))
def o7 (f:(List ByteArray)):Option (Int) :=
 (forL f () (λk x s=>qa f k x s)).bind λh=>thenC h (λj=>some 0) (λr=>some r)
theorem vP (f:(List ByteArray)):Le (o7 f) (lG f):=by
 unfold o7 lG
 repeat' (with_reducible first|exact Le.refl _|exact zP _ _ _ _|refine Le.forL (λ_ _ _=>?_)|refine Le.thenC (λ_=>?_) (λ_=>?_)|refine Le.bind ?_ (λ_=>?_))
def qb (f:(List ByteArray)):Option (Int) :=
 bif (decide ((f.length:Int)>20))then some 2 else (o7 f).bind λh=>some h
theorem zY (f:(List ByteArray)):Le (qb f) (lc f):=by
 unfold qb lc
 repeat' (with_reducible first|exact Le.refl _|exact vP _|refine Le.cond ?_ ?_|refine Le.bind ?_ (λ_=>?_))
def oz (f:Entry):Option (Int) :=
 ((jI f.Key).bind λR=>bif (!R)then some true else (jI f.Item).bind λO=>some (!O)).bind λT=>bif T then some 5 else ((aS f.Version 0 1000000).bind λM=>bif M then some true else (aS f.First 0 f.Last).bind λI=>bif I then some true else bif (decide (f.Last>4000))then some true else (aS f.Every 1 400).bind λL=>bif L then some true else (aS f.Days 1 127).bind λA=>some A).bind λN=>bif N then some 1 else (lK f.Except).bind λh=>bif (h != 0)then some h else ((aS f.From 0 1439).bind λB=>bif B then some true else (aS f.To 0 1439).bind λF=>bif F then some true else (aS f.Prio 0 9).bind λo=>some o).bind λj=>bif j then some 1 else (qb f.Tags).bind λJ=>some J
theorem y8 (f:Entry):Le (oz f) (kG f):=by
 unfold oz kG
 repeat' (with_reducible first|exact Le.refl _|exact lV _|exact zY _|refine Le.cond ?_ ?_|refine Le.bind ?_ (λ_=>?_))
def lw (B:(List Entry)) (j:Nat) (h:Entry) (F:Unit):Option (Ctl (Unit) (Int)) :=
 (oz h).bind λf=>bif (f != 0)then some (.ret f)else (bif (decide ((j:Int)>0))then (idx B (w64 ((j:Int)-1))).bind λo=>some (sLe h.Key o.Key)else some false).bind λA=>bif A then some (.ret 7)else some (.go ())
theorem vk (f:(List Entry)) (o:Nat) (j:Entry) (h:Unit):Le (lw f o j h) (iw f o j h):=by
 unfold lw iw
 repeat' (with_reducible first|exact Le.refl _|exact y8 _|refine Le.cond ?_ ?_|refine Le.bind ?_ (λ_=>?_))
def ny (f:(List Entry)):Option (Int) :=
 bif (decide ((f.length:Int)>200))then some 2 else (forL f () (λk x s=>lw f k x s)).bind λh=>thenC h (λj=>some 0) (λr=>some r)
theorem xW (f:(List Entry)):Le (ny f) (jC f):=by
 unfold ny jC
 repeat' (with_reducible first|exact Le.refl _|exact vk _ _ _ _|refine Le.forL (λ_ _ _=>?_)|refine Le.thenC (λ_=>?_) (λ_=>?_)|refine Le.cond ?_ ?_|refine Le.bind ?_ (λ_=>?_))
def kv (h:(List Int)) (f:Int):Option (Int×Bool) :=
 (yc (0,(h.length:Int)) (λs=>gq h f s)).bind λI=>thenC I (λj=>(bif (decide (j.1<(h.length:Int)))then (idx h j.1).bind λA=>bif (A==f)then some true else (idx h j.1).bind λo=>(kL o).bind λJ=>bif J then (kL f).bind λF=>some F else some false else some false).bind λB=>some (j.1,B)) (λ_=>none)
theorem sV (h:(List Int)) (f:Int):Le (kv h f) (fF h f):=by
 unfold kv fF
 repeat' (with_reducible first|exact Le.refl _|refine Le.loop (λ_=>?_)|refine Le.thenC (λ_=>?_) (λ_=>?_)|refine Le.cond ?_ ?_|refine Le.bind ?_ (λ_=>?_))
def uK (f:Entry) (h:Int):Option (Bool) :=
 ((aS h f.First f.Last).bind λB=>bif B then some true else (Nv .i64 (w64 (h-f.First)) f.Every).bind λA=>bif (A != 0)then some true else (shlO .i64 1 (h.tmod 7)).bind λj=>some ((ED .i64 f.Days j)==0)).bind λF=>bif F then some false else (kv f.Except h).bind λo=>some (!o.2)
theorem DJ (h:Entry) (f:Int):Le (uK h f) (o5 h f):=by
 unfold uK o5
 repeat' (with_reducible first|exact Le.refl _|exact sV _ _|refine Le.cond ?_ ?_|refine Le.bind ?_ (λ_=>?_))
def qM (o:Window) (h:Int) (A:Entry) (f:(List Window)×Int):Option (Ctl ((List Window)×Int) (Unit)) :=
 bif (decide (f.2<=(KC (w64 ((w64 ((w64 (o.To+(w64 (h*60000)))).tdiv 86400000))+1)) A.Last)))then (uK A f.2).bind λI=>bif (!I)then some (.go (f.1,(w64 (f.2+1))))else (qF A h f.2).bind λj=>(bif (decide (j.From<o.To))then some (decide (j.To>o.From))else some false).bind λF=>(bif F then (kr f.1 ([j]:List Window)).bind λB=>some B else some f.1).bind λJ=>some (.go (J,(w64 (f.2+1))))else some (.brk (f.1,f.2))
theorem AU (h:Window) (f:Int) (o:Entry) (j:(List Window)×Int):Le (qM h f o j) (lI h f o j):=by
 unfold qM lI
 repeat' (with_reducible first|exact Le.refl _|exact DJ _ _|refine Le.cond ?_ ?_|refine Le.bind ?_ (λ_=>?_))
def uT (j:Entry) (h:Int) (f:Window):Option ((List Window)) :=
 (bif j.Gone then some true else some (decide (f.From>=f.To))).bind λB=>bif B then some ([]:(List Window))else (yc (([]:List Window),(jE (w64 ((w64 ((w64 (f.From+(w64 (h*60000)))).tdiv 86400000))-2)) j.First)) (λs=>qM f h j s)).bind λo=>thenC o (λA=>some A.1) (λ_=>none)
theorem CX (j:Entry) (f:Int) (h:Window):Le (uT j f h) (oG j f h):=by
 unfold uT oG
 repeat' (with_reducible first|exact Le.refl _|exact AU _ _ _ _|refine Le.loop (λ_=>?_)|refine Le.thenC (λ_=>?_) (λ_=>?_)|refine Le.cond ?_ ?_|refine Le.bind ?_ (λ_=>?_))
def uU (I:Entry) (f:Int) (h:Window):Option ((List Window)×Int) :=
 (ny ([I]:List Entry)).bind λA=>bif (A != 0)then some (([]:(List Window)),A)else (aS f (-1440) 1440).bind λJ=>bif J then some (([]:(List Window)),1)else (lL h).bind λo=>bif (o != 0)then some (([]:(List Window)),o)else (uT I f h).bind λj=>(forL (List.range ((j.length:Int)).toNat) j (λk x s=>nX h k x s)).bind λF=>thenC F (λB=>some (B,0)) (λ_=>none)
theorem CW (j:Entry) (f:Int) (h:Window):Le (uU j f h) (oD j f h):=by
 unfold uU oD
 repeat' (with_reducible first|exact Le.refl _|exact xW _|exact CX _ _ _|refine Le.forL (λ_ _ _=>?_)|refine Le.thenC (λ_=>?_) (λ_=>?_)|refine Le.cond ?_ ?_|refine Le.bind ?_ (λ_=>?_))
def qJ (f:(List ByteArray)):Option (Int) :=
 bif (decide ((f.length:Int)>20))then some 2 else (o7 f).bind λh=>some h
theorem AC (f:(List ByteArray)):Le (qJ f) (lS f):=by
 unfold qJ lS
 repeat' (with_reducible first|exact Le.refl _|exact vP _|refine Le.cond ?_ ?_|refine Le.bind ?_ (λ_=>?_))
def kN (R:(List Campaign)) (B:Nat) (f:Campaign) (T:Unit):Option (Ctl (Unit) (Int)) :=
 ((jI f.Key).bind λL=>bif (!L)then some true else bif (sNe f.Class (⟨#[]⟩:ByteArray))then (jI f.Class).bind λO=>some (!O)else some false).bind λA=>bif A then some (.ret 5)else (bif (decide ((B:Int)>0))then (idx R (w64 ((B:Int)-1))).bind λN=>some (sLe f.Key N.Key)else some false).bind λF=>bif F then some (.ret 7)else ((rH f.Time).bind λI=>bif (!I)then some true else (aS f.Goal 0 1000000).bind λJ=>bif J then some true else (aS f.Most 0 1000000).bind λo=>bif o then some true else (aS f.Cents 0 1000000000).bind λM=>some M).bind λj=>bif j then some (.ret 1)else (qJ f.Tags).bind λh=>bif (h != 0)then some (.ret h)else some (.go ())
theorem uR (f:(List Campaign)) (o:Nat) (j:Campaign) (h:Unit):Le (kN f o j h) (gL f o j h):=by
 unfold kN gL
 repeat' (with_reducible first|exact Le.refl _|exact lV _|exact AC _|refine Le.cond ?_ ?_|refine Le.bind ?_ (λ_=>?_))
def mD (f:(List Campaign)):Option (Int) :=
 bif (decide ((f.length:Int)>30))then some 2 else (forL f () (λk x s=>kN f k x s)).bind λh=>thenC h (λj=>some 0) (λr=>some r)
theorem xk (f:(List Campaign)):Le (mD f) (jk f):=by
 unfold mD jk
 repeat' (with_reducible first|exact Le.refl _|exact uR _ _ _ _|refine Le.forL (λ_ _ _=>?_)|refine Le.thenC (λ_=>?_) (λ_=>?_)|refine Le.cond ?_ ?_|refine Le.bind ?_ (λ_=>?_))
def yZ (j:Campaign) (f:Int):Option (Int×Int) :=
 (mD ([j]:List Campaign)).bind λh=>bif (h != 0)then some (0,h)else (cK f).bind λA=>bif (!A)then some (0,1)else (xJ j f).bind λo=>some (o,0)
theorem Hy (h:Campaign) (f:Int):Le (yZ h f) (uo h f):=by
 unfold yZ uo
 repeat' (with_reducible first|exact Le.refl _|exact xk _|refine Le.cond ?_ ?_|refine Le.bind ?_ (λ_=>?_))
def oO (j:(List Beat)) (h:Nat) (f:Beat) (R:Unit):Option (Ctl (Unit) (Int)) :=
 (jI f.Player).bind λN=>bif (!N)then some (.ret 5)else ((cK f.At).bind λB=>bif (!B)then some true else (aS f.Clock 0 345686399999).bind λJ=>some J).bind λO=>bif O then some (.ret 1)else (bif (decide ((h:Int)>0))then (idx j (w64 ((h:Int)-1))).bind λM=>(jD M f).bind λF=>some (decide (F>=0))else some false).bind λo=>bif o then some (.ret 7)else (bif (decide ((h:Int)>0))then (idx j (w64 ((h:Int)-1))).bind λI=>bif (sEq f.Player I.Player)then (idx j (w64 ((h:Int)-1))).bind λL=>some (decide (f.Clock<=L.Clock))else some false else some false).bind λA=>bif A then some (.ret 16)else some (.go ())
theorem yR (f:(List Beat)) (o:Nat) (j:Beat) (h:Unit):Le (oO f o j h) (jr f o j h):=by
 unfold oO jr
 repeat' (with_reducible first|exact Le.refl _|exact lV _|refine Le.cond ?_ ?_|refine Le.bind ?_ (λ_=>?_))
def rG (f:(List Beat)):Option (Int) :=
 bif (decide ((f.length:Int)>500))then some 2 else (forL f () (λk x s=>oO f k x s)).bind λh=>thenC h (λj=>some 0) (λr=>some r)
theorem BH (f:(List Beat)):Le (rG f) (gH f):=by
 unfold rG gH
 repeat' (with_reducible first|exact Le.refl _|exact yR _ _ _ _|refine Le.forL (λ_ _ _=>?_)|refine Le.thenC (λ_=>?_) (λ_=>?_)|refine Le.cond ?_ ?_|refine Le.bind ?_ (λ_=>?_))
def xY (h:(List Beat_)) (o:Int):Option (Int×Int) :=
 bif ((h.length:Int)==0)then some (0,8)else (yc 0 (λs=>iG h o s)).bind λT=>thenC T (λA=>bif (A==0)then (idx h 0).bind λI=>(idx h 0).bind λL=>(cK (w64 (I.f_to-(w64 (L.f_from-o))))).bind λM=>bif (!M)then some (0,11)else some ((w64 (I.f_to-(w64 (L.f_from-o)))),0)else bif (A==(h.length:Int))then (idx h (w64 (A-1))).bind λJ=>(idx h (w64 (A-1))).bind λB=>(cK (w64 ((w64 (J.f_to+o))-B.f_from))).bind λR=>bif (!R)then some (0,11)else some ((w64 ((w64 (J.f_to+o))-B.f_from)),0)else (idx h (w64 (A-1))).bind λf=>(idx h A).bind λj=>(bif (decide ((w64 (j.f_from-f.f_from))>2592000000))then some true else some (decide ((w64 (j.f_to-f.f_to))>2592000000))).bind λO=>bif O then some (0,2)else (KE .i64 (w64 ((w64 (o-f.f_from))*(w64 (j.f_to-f.f_to)))) (w64 (j.f_from-f.f_from))).bind λF=>(cK (w64 (f.f_to+F))).bind λN=>bif (!N)then some (0,11)else some ((w64 (f.f_to+F)),0)) (λ_=>none)
theorem FU (f:(List Beat_)) (h:Int):Le (xY f h) (jP f h):=by
 unfold xY jP
 repeat' (with_reducible first|exact Le.refl _|refine Le.loop (λ_=>?_)|refine Le.thenC (λ_=>?_) (λ_=>?_)|refine Le.cond ?_ ?_|refine Le.bind ?_ (λ_=>?_))
def ze (o:(List Beat)) (f:ByteArray) (A:Int) (h:Bool):Option (Int×Int) :=
 (rG o).bind λB=>bif (B != 0)then some (0,B)else (jI f).bind λJ=>bif (!J)then some (0,5)else (cK A).bind λF=>bif (!F)then some (0,1)else (lZ o f h).bind λI=>(xY I A).bind λj=>some (j.1,j.2)
theorem Hu (j:(List Beat)) (f:ByteArray) (o:Int) (h:Bool):Le (ze j f o h) (uE j f o h):=by
 unfold ze uE
 repeat' (with_reducible first|exact Le.refl _|exact lV _|exact BH _|exact FU _ _|refine Le.cond ?_ ?_|refine Le.bind ?_ (λ_=>?_))
def yT (o:(List Beat)) (f:ByteArray) (h:Int):Option (Int×Int) :=
 (ze o f h false).bind λj=>some (j.1,j.2)
theorem I4 (j:(List Beat)) (f:ByteArray) (h:Int):Le (yT j f h) (uw j f h):=by
 unfold yT uw
 repeat' (with_reducible first|exact Le.refl _|exact Hu _ _ _ _|refine Le.bind ?_ (λ_=>?_))
def p9 (h:Alert) (o:Nat) (f:ByteArray) (F:Unit):Option (Ctl (Unit) (Int)) :=
 (jI f).bind λB=>bif (!B)then some (.ret 5)else (bif (decide ((o:Int)>0))then (idx h.Refs (w64 ((o:Int)-1))).bind λA=>some (sLe f A)else some false).bind λj=>bif j then some (.ret 7)else bif (sEq f h.Id)then some (.ret 14)else some (.go ())
theorem zU (f:Alert) (j:Nat) (h:ByteArray) (o:Unit):Le (p9 f j h o) (lm f j h o):=by
 unfold p9 lm
 repeat' (with_reducible first|exact Le.refl _|exact lV _|refine Le.cond ?_ ?_|refine Le.bind ?_ (λ_=>?_))
def sN (f:Alert):Option (Int) :=
 bif (decide ((f.Refs.length:Int)>20))then some 2 else (forL f.Refs () (λk x s=>p9 f k x s)).bind λh=>thenC h (λj=>bif (!((f.Kind==1)==((f.Refs.length:Int)==0)))then some 3 else some 0) (λr=>some r)
theorem Cv (f:Alert):Le (sN f) (nL f):=by
 unfold sN nL
 repeat' (with_reducible first|exact Le.refl _|exact zU _ _ _ _|refine Le.forL (λ_ _ _=>?_)|refine Le.thenC (λ_=>?_) (λ_=>?_)|refine Le.cond ?_ ?_|refine Le.bind ?_ (λ_=>?_))
def y9 (f:ByteArray):Option (Bool) :=
 (yc 0 (λs=>sw f s)).bind λh=>thenC h (λF=>((lX f).bind λA=>bif A then (o8 f (⟨#[32]⟩:ByteArray)).bind λj=>bif (sEq j f)then (strings_Contains f (⟨#[32,32]⟩:ByteArray)).bind λB=>some (!B)else some false else some false).bind λo=>some o) (λr=>some r)
theorem IM (f:ByteArray):Le (y9 f) (tT f):=by
 unfold y9 tT
 repeat' (with_reducible first|exact Le.refl _|refine Le.loop (λ_=>?_)|refine Le.thenC (λ_=>?_) (λ_=>?_)|refine Le.cond ?_ ?_|refine Le.bind ?_ (λ_=>?_))
def rM (f:Alert):Option (Int) :=
 ((jI f.Id).bind λN=>bif (!N)then some true else (jI f.Sender).bind λM=>some (!M)).bind λO=>bif O then some 5 else (aS f.Kind 1 3).bind λF=>bif F then some 4 else (sN f).bind λh=>bif (h != 0)then some h else ((cK f.At).bind λA=>bif (!A)then some true else (aS f.Until (w64 (f.At+1)) (w64 (f.At+2592000000))).bind λI=>bif I then some true else (aS f.Weight 1 9).bind λo=>some o).bind λL=>bif L then some 1 else bif (decide ((f.Areas.length:Int)>20))then some 2 else (forL f.Areas () (λk x s=>l9 k x s)).bind λj=>thenC j (λR=>bif (!((f.Kind==3)==((f.Areas.length:Int)==0)))then some 3 else bif (decide ((f.Text.size:Int)>500))then some 2 else ((y9 f.Text).bind λB=>bif (!B)then some true else bif (sEq f.Text (⟨#[]⟩:ByteArray))then some (!(f.Kind==3))else some false).bind λJ=>bif J then some 3 else some 0) (λr=>some r)
theorem BK (f:Alert):Le (rM f) (mJ f):=by
 unfold rM mJ
 repeat' (with_reducible first|exact Le.refl _|exact lV _|exact Cv _|exact IM _|refine Le.forL (λ_ _ _=>?_)|refine Le.thenC (λ_=>?_) (λ_=>?_)|refine Le.cond ?_ ?_|refine Le.bind ?_ (λ_=>?_))
def nV (F:(List Alert)) (o:Nat) (h:Alert) (I:Unit):Option (Ctl (Unit) (Int)) :=
 (rM h).bind λf=>bif (f != 0)then some (.ret f)else (bif (decide ((o:Int)>0))then (idx F (w64 ((o:Int)-1))).bind λA=>(tO A h).bind λj=>some (decide (j>=0))else some false).bind λB=>bif B then some (.ret 7)else some (.go ())
theorem yF (f:(List Alert)) (o:Nat) (j:Alert) (h:Unit):Le (nV f o j h) (jS f o j h):=by
 unfold nV jS
 repeat' (with_reducible first|exact Le.refl _|exact BK _|refine Le.cond ?_ ?_|refine Le.bind ?_ (λ_=>?_))
def qH (f:(List Alert)):Option (Int) :=
 bif (decide ((f.length:Int)>300))then some 2 else (forL f () (λk x s=>nV f k x s)).bind λj=>thenC j (λA=>(forL f ([]:List (ByteArray×Bool)) (λk x s=>lJ k x s)).bind λh=>thenC h (λo=>some 0) (λr=>some r)) (λr=>some r)
theorem Bb (f:(List Alert)):Le (qH f) (lQ f):=by
 unfold qH lQ
 repeat' (with_reducible first|exact Le.refl _|exact yF _ _ _ _|refine Le.forL (λ_ _ _=>?_)|refine Le.thenC (λ_=>?_) (λ_=>?_)|refine Le.cond ?_ ?_|refine Le.bind ?_ (λ_=>?_))
def oF (J:(List Post)) (o:Nat) (f:Post) (L:Unit):Option (Ctl (Unit) (Int)) :=
 (jI f.Player).bind λF=>bif (!F)then some (.ret 5)else ((aS f.X (-100000) 100000).bind λj=>bif j then some true else (aS f.Y (-100000) 100000).bind λA=>some A).bind λI=>bif I then some (.ret 1)else (bif (decide ((o:Int)>0))then (idx J (w64 ((o:Int)-1))).bind λB=>some (sLe f.Player B.Player)else some false).bind λh=>bif h then some (.ret 7)else some (.go ())
theorem yU (f:(List Post)) (o:Nat) (j:Post) (h:Unit):Le (oF f o j h) (kz f o j h):=by
 unfold oF kz
 repeat' (with_reducible first|exact Le.refl _|exact lV _|refine Le.cond ?_ ?_|refine Le.bind ?_ (λ_=>?_))
def rX (f:(List Post)):Option (Int) :=
 bif (decide ((f.length:Int)>500))then some 2 else (forL f () (λk x s=>oF f k x s)).bind λh=>thenC h (λj=>some 0) (λr=>some r)
theorem BM (f:(List Post)):Le (rX f) (mP f):=by
 unfold rX mP
 repeat' (with_reducible first|exact Le.refl _|exact yU _ _ _ _|refine Le.forL (λ_ _ _=>?_)|refine Le.thenC (λ_=>?_) (λ_=>?_)|refine Le.cond ?_ ?_|refine Le.bind ?_ (λ_=>?_))
def sO (j:(List Alert)) (f:(List Post)):Option (Int) :=
 (qH j).bind λh=>bif (h != 0)then some h else (rX f).bind λo=>some o
theorem CU (h:(List Alert)) (f:(List Post)):Le (sO h f) (nN h f):=by
 unfold sO nN
 repeat' (with_reducible first|exact Le.refl _|exact Bb _|exact BM _|refine Le.cond ?_ ?_|refine Le.bind ?_ (λ_=>?_))
def wo (h:Alert) (j:Post):Option (Bool×Int) :=
 (sO ([h]:List Alert) ([j]:List Post)).bind λf=>bif (f != 0)then some (false,f)else (tH h j).bind λo=>some (o,0)
theorem D7 (f:Alert) (h:Post):Le (wo f h) (qi f h):=by
 unfold wo qi
 repeat' (with_reducible first|exact Le.refl _|exact CU _ _|refine Le.cond ?_ ?_|refine Le.bind ?_ (λ_=>?_))
def AY  : Option (Bool) :=
 (zb ([(⟨0,0,2,2⟩:Rect),(⟨1,1,2,2⟩:Rect)]:List Rect)).bind λh=>(uU (⟨(⟨#[97]⟩:ByteArray),(⟨#[98]⟩:ByteArray),0,0,0,1,127,([]:List Int),1,2,0,([]:List ByteArray),false⟩:Entry) 0 (⟨0,86400000⟩:Window)).bind λB=>(yZ (⟨(⟨#[97]⟩:ByteArray),(⟨#[]⟩:ByteArray),(⟨0,100⟩:Window),([]:List ByteArray),10,0,0⟩:Campaign) 50).bind λo=>(yT ([(⟨(⟨#[112]⟩:ByteArray),0,100⟩:Beat),(⟨(⟨#[112]⟩:ByteArray),1000,1300⟩:Beat)]:List Beat) (⟨#[112]⟩:ByteArray) 700).bind λj=>(wo (⟨(⟨#[97]⟩:ByteArray),(⟨#[115]⟩:ByteArray),1,([]:List ByteArray),0,5,1,([(⟨0,0,2,2⟩:Rect)]:List Rect),(⟨#[120]⟩:ByteArray)⟩:Alert) (⟨(⟨#[112]⟩:ByteArray),1,1⟩:Post)).bind λf=>((BC ([h.2,B.2,o.2,j.2,f.2]:List Int)).bind λF=>bif (F==0)then bif (h.1==7)then bif ((B.1.length:Int)==1)then bif (o.1==5)then bif (j.1==500)then some f.1 else some false else some false else some false else some false else some false).bind λA=>some A
theorem Jp  : Le (AY) (sS):=by
 unfold AY sS
 repeat' (with_reducible first|exact Le.refl _|exact Iu _|exact CW _ _ _|exact Hy _ _|exact I4 _ _ _|exact D7 _ _|refine Le.cond ?_ ?_|refine Le.bind ?_ (λ_=>?_))
theorem ready_F:AY=some true:=by kernel_rfl
theorem R8:sS=some true:=Jp _ ready_F
theorem Lg {α:Type} {z:α} {body:Nat->Nat->List α->Option (Ctl (List α) Unit)} (hb:∀k x s,body k x s=(inR (k:Int) s).bind λ_=>(s[(0+((k:Int)).toNat)]?).bind λ_=>some (.go (s.set (0+((k:Int)).toNat) z))) (l:List α) (hl:l.length<=100000):∃r,forL (List.range ((l.length:Int)).toNat) l (λk x s=>body k x s)=some (.go r)/\r.length=l.length:=by
 obtain ⟨r,j,o⟩:=qA (body:=λk x s=>body k x s) (λ_ s=>s.length=l.length) (xs:=List.range ((l.length:Int)).toNat) (s:=l) (by simp;omega) (λk x s f hs=>by
  have A:=(List.getElem?_eq_some_iff.1 f).1
  rw [List.length_range]at A
  have h:s[0+((k:Int)).toNat]? = some (s[0+((k:Int)).toNat]'(by omega)):=List.getElem?_eq_getElem (by omega)
  rw [hb,zx (by omega) (by omega),ob_,h,ob_]
  exact⟨_,rfl,by rw [List.length_set];exact hs⟩) rfl
 exact⟨r,j,o⟩
theorem Gs {α:Type} {a b:List α} (h:a.length=b.length):fA a b=some ():=by unfold fA;rw [if_pos h]
theorem spoilL (l:List Log_) (hl:l.length<=100000):∃r,jB l=some r/\fA r l=some ():=by
 obtain ⟨r,f,h⟩:=Lg (body:=λk x s=>jN k x s) (λk x s=>rfl) l hl
 exact⟨r,by unfold jB;rw [f];rfl,Gs h⟩
theorem spoilP (l:List Play) (hl:l.length<=100000):∃r,jm l=some r/\fA r l=some ():=by
 obtain ⟨r,f,h⟩:=Lg (body:=λk x s=>jA k x s) (λk x s=>rfl) l hl
 exact⟨r,by unfold jm;rw [f];rfl,Gs h⟩
theorem spoilT (l:List Tally) (hl:l.length<=100000):∃r,iW l=some r/\fA r l=some ():=by
 obtain ⟨r,f,h⟩:=Lg (body:=λk x s=>ji k x s) (λk x s=>rfl) l hl
 exact⟨r,by unfold iW;rw [f];rfl,Gs h⟩
theorem spoilM (l:List Match) (hl:l.length<=100000):∃r,iX l=some r/\fA r l=some ():=by
 obtain ⟨r,f,h⟩:=Lg (body:=λk x s=>jl k x s) (λk x s=>rfl) l hl
 exact⟨r,by unfold iX;rw [f];rfl,Gs h⟩
theorem eqLog (l:List Log_) (hl:l.length<=1000000):eZ l l=some true:=by
 unfold eZ
 have j:((l.length:Int) != (l.length:Int))=false:=by simp
 obtain ⟨s,h,_⟩:=qA (body:=λk x s=>dP l k x s) (ρ:=Bool) (λ_ _=>True) (xs:=l) (s:=()) (by omega) (λk x s f _=>by
  refine⟨(),?_,trivial⟩
  unfold dP
  rw [l8,f,ob_]
  simp) trivial
 rw [j,cond_false,h];rfl
theorem eqBeat (l:List Beat) (hl:l.length<=1000000):dZ l l=some true:=by
 unfold dZ
 have j:((l.length:Int) != (l.length:Int))=false:=by simp
 obtain ⟨s,h,_⟩:=qA (body:=λk x s=>dG l k x s) (ρ:=Bool) (λ_ _=>True) (xs:=l) (s:=()) (by omega) (λk x s f _=>by
  refine⟨(),?_,trivial⟩
  unfold dG
  rw [l8,f,ob_]
  simp) trivial
 rw [j,cond_false,h];rfl
theorem eqPlay (l:List Play) (hl:l.length<=1000000):dY l l=some true:=by
 unfold dY
 have j:((l.length:Int) != (l.length:Int))=false:=by simp
 obtain ⟨s,h,_⟩:=qA (body:=λk x s=>dD l k x s) (ρ:=Bool) (λ_ _=>True) (xs:=l) (s:=()) (by omega) (λk x s f _=>by
  refine⟨(),?_,trivial⟩
  unfold dD
  rw [l8,f,ob_]
  simp) trivial
 rw [j,cond_false,h];rfl
theorem eqStr (l:List ByteArray) (hl:l.length<=100000000):fQ l l=some true:=by
 unfold fQ
 have o:((l.length:Int) != (l.length:Int))=false:=by simp
 obtain ⟨s,j,_⟩:=qA (body:=λk x s=>eO l k x s) (ρ:=Bool) (λ_ _=>True) (xs:=l) (s:=()) (by omega) (λk x s h _=>by
  refine⟨(),?_,trivial⟩
  have f:sNe x x=false:=by
   show (!sEq x x)=false
   rw [(Lh _ _).2 rfl];rfl
  unfold eO
  rw [l8,h,ob_,f];rfl) trivial
 rw [o,cond_false,j];rfl
theorem P5 {l:List Play} (h:RPlays l):VP l:=by
 refine⟨λx f => ?_,λx f=>by have:=(h.right x f).at_;omega,λx f=>by have:=(h.right x f).lo;omega,h.rise⟩
 obtain ⟨h1,h2,o,j⟩:=h.right x f
 refine⟨?_,?_,by omega,by omega⟩
 ·rcases h1 with e|e <;> rw [e] <;> exact oW rfl
 ·rcases h2 with e|e <;> rw [e] <;> exact oW rfl
theorem rp_zero {l:List Play} (h:RPlays l):Od l=0:=by
 have h1:=Cf (P5 h).good (by have:=h.len;omega)
 rw [Dn h,so_]at h1
 exact h1.symm
theorem proofsStay (l:List Int):qB l=some true:=by
 obtain ⟨x,x1,x2,x3,x4,Y⟩:=FI ⟨l,0⟩ 5 (by decide) (b:=0) ⟨Int.le_refl _,Int.le_refl _⟩ (by decide)
 obtain ⟨B,s2,b1,b2,b3,b4,b5⟩:=Eo x.2 x2 (by omega)
 obtain ⟨z,s3,z1,z2,z3,z4⟩:=NT 5 (by decide) s2 b2 (by omega)
 have j:x.1.length<=10:=x3
 have hzl:z.length<=10:=z3
 have l0:=QT x4 Y (by omega)
 have q0:=OI b4 b5 (by omega)
 have J:∀y∈x.1,wR y:=λy I=>EQ (x4 y I)
 have N:=Qq x.1 J (by omega)
 have hb:=beatsK B (λy I=>M9 (b4 y I)) (by omega)
 rw [l0]at N
 rw [q0]at hb
 have h0:dW []=some 0:=by
  have:=Qq [] (λy I=>by cases I) (by simp)
  rw [this];rfl
 obtain ⟨t1,t2⟩:=logsF_0 l0
 obtain ⟨_,u2⟩:=Sk q0
 obtain ⟨F,f1,f2⟩:=Oa (B:=B) ⟨u2,by omega⟩ (L:=x.1) ⟨t1,t2,by omega⟩ N hb
 generalize (fnd B x.1 x.1).1=pl at f1 f2
 have f:=P5 z2
 have W:=rp_zero z2
 have o:=Dn z2
 obtain ⟨r,r1,r2⟩:=O4 f (by omega) (zone:=0) (by decide) W
 have T:=HY (zone:=0) (by decide) z f.at_ f.lo
 have hrl:r.length<=10:=by have:=r2.length_eq;have:=T.len;omega
 obtain ⟨M,left,c1,c2⟩:=Q8 f f o o (by omega) (by omega) (most:=5) (by decide)
 obtain ⟨p,e,p1,p2,p3⟩:=pathOk x.1 J (by omega) l0
 obtain ⟨Z,O,R⟩:=rootOk x.1 J (by omega) l0
 obtain ⟨w1,k1,k2⟩:=spoilL x.1 (by omega)
 obtain ⟨w2,k3,k4⟩:=spoilP pl (by omega)
 obtain ⟨w3,k5,k6⟩:=spoilT r (by omega)
 obtain ⟨w4,k7,k8⟩:=spoilM M (by omega)
 unfold qB
 simp only [x1,b1,z1,ob_,QM Y (by omega) N h0,k1,k2,f1,k3,k4,r1,k5,k6,c1,k7,k8,p3,cloneSE p (by omega),R,beq_self_eq_true,cond_true]
 have hv:(bif decide ((x.1.length:Int)>0)then (idx x.1 0).bind λA=>(pO Z (x.1.length:Int) 0 A p).bind λr_64=>some ()else some ())=some ():=by
  cases hx:x.1 with
  | nil=>rfl
  | cons y ys =>
   have h:=j
   rw [hx]at h
   obtain ⟨v,v1⟩:=Us Z (((y::ys).length:Nat):Int) 0 y p O (by omega) (J y (by rw [hx];simp)) p1 (by omega)
   rw [decide_eq_true (by simp only [List.length_cons];omega),cond_true,show idx (y::ys) 0=some y from rfl,ob_,v1];rfl
 rw [hv]
 simp only [ob_,eqLog x.1 (by omega),eqBeat B (by omega),eqPlay z (by omega),eqStr p (by omega),R8,cond_true]
end Go.Proofs.YtnfojnnfidnikaeGreatDoor.Law

