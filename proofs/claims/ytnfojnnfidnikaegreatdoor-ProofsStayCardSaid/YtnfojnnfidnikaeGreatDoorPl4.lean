/-
  THE PLAIN LAW (part 4).
-/
import Derived.Test.YtnfojnnfidnikaeGreatDoorPl3
import Derived.Test.YtnfojnnfidnikaeGreatDoorDefs
open Go Go.Eng
namespace Go.Proofs.YtnfojnnfidnikaeGreatDoor.Law
set_option linter.unusedVariables false
set_option linter.unusedSimpArgs false
def Oi (p:Play) (zone:Int):Int:=(p.At+zone*60000) / 86400000
theorem day_eq {p:Play} {zone:Int} (j:0<=p.At/\p.At<=345686399999) (h : -1440<=zone/\zone<=1440):ug p.At zone=some (Oi p zone):=by
 unfold ug Oi
 have h1:w64 (zone*60000)=zone*60000:=dh (by omega)
 have h2:w64 (p.At+zone*60000)=p.At+zone*60000:=dh (by omega)
 have f:w64 (p.At+zone*60000+86400000)=p.At+zone*60000+86400000:=dh (by omega)
 rw [h1,h2,f,Int.tdiv_eq_ediv_of_nonneg (by omega),dh (n:=(p.At+zone*60000+86400000) / 86400000) (by omega),dh (by omega)]
 congr 1;omega
def sameK (k t:Tally):Bool:=decide (t.Player=k.Player)&&(decide (t.Item=k.Item)&&decide (t.Day=k.Day))
theorem Bq {k t:Tally}:sameK k t=true↔t.Player=k.Player/\t.Item=k.Item/\t.Day=k.Day:=by unfold sameK;simp
def ixT (k:Tally):List Tally->Option Nat
 | []=>none
 | t::ts=>if sameK k t=true then some 0 else (ixT k ts).map (· + 1)
theorem L6 {k:Tally}:∀{ts:List Tally} {i:Nat},ixT k ts=some i->∃t,ts[i]? = some t/\sameK k t=true
 | t::ts,i,h=>by
  simp only [ixT]at h
  split at h
  ·rename_i h1
   simp only [so_]at h;subst h
   exact⟨t,rfl,h1⟩
  ·simp only [Option.map_eq_some_iff]at h
   obtain ⟨j,hj,rfl⟩:=h
   obtain ⟨t',h1,h2⟩:=L6 hj
   exact⟨t',by simpa using h1,h2⟩
 | [],_,h=>by cases h
theorem MZ {k:Tally}:∀{ts:List Tally},ixT k ts=none->∀t∈ts,sameK k t=false
 | t::ts,h=>by
  simp only [ixT]at h
  split at h
  ·cases h
  ·rename_i h1
   simp only [Option.map_eq_none_iff]at h
   intro x f
   rcases List.mem_cons.1 f with rfl|f
   ·simpa using h1
   ·exact MZ h x f
 | [],_=>λx f=>by cases f
theorem Pw {k:Tally} {x:Tally} (f:sameK k x=true):∀{ts:List Tally},ixT k ts=none->ixT k (ts++[x])=some ts.length
 | [],_=>by simp [ixT,f]
 | t::ts,h=>by
  simp only [ixT]at h
  split at h
  ·cases h
  ·rename_i h1
   simp only [Option.map_eq_none_iff]at h
   simp only [List.cons_append,ixT,if_neg h1,Pw f h,Option.map_some,List.length_cons]
theorem Py {k x y:Tally} {i:Nat} (hs:sameK k x=sameK k y):∀{ts:List Tally} {j:Nat},ts[j]? = some x->ixT k (ts.set j y)=ixT k ts
 | t::ts,0,h=>by
  simp only [List.getElem?_cons_zero,so_]at h;subst h
  simp only [List.set_cons_zero,ixT,hs]
 | t::ts,j+1,h=>by
  simp only [List.set_cons_succ,ixT,Py (i:=i) hs (ts:=ts) (j:=j) (by simpa using h)]
 | [],_,h=>by cases h
def kT (p:Play) (zone:Int):Tally:=⟨p.Player,p.Item,Oi p zone,0,0⟩
def upT (t:Tally) (p:Play):Tally:=⟨t.Player,t.Item,t.Day,t.Many+1,t.Long+p.Long⟩
def pU (zone:Int) (ts:List Tally) (p:Play):List Tally:=match ixT (kT p zone) ts with | none=>ts++[kT p zone] | some _=>ts
theorem Mt (zone:Int) (ts:List Tally) (p:Play):∃i t,ixT (kT p zone) (pU zone ts p)=some i/\(pU zone ts p)[i]? = some t/\sameK (kT p zone) t=true:=by
 have f:sameK (kT p zone) (kT p zone)=true:=Bq.2 ⟨rfl,rfl,rfl⟩
 unfold pU
 cases h:ixT (kT p zone) ts with
 | none =>
  refine⟨ts.length,kT p zone,Pw f h,by simp,f⟩
 | some i =>
  obtain ⟨t,h1,h2⟩:=L6 h
  exact⟨i,t,h,h1,h2⟩
def stepT (zone:Int) (ts:List Tally) (p:Play):List Tally:=match ixT (kT p zone) (pU zone ts p)with
 | none=>ts
 | some i=>match (pU zone ts p)[i]? with
  | none=>ts
  | some t=>(pU zone ts p).set i (upT t p)
theorem Ml {zone:Int} {ts:List Tally} {p:Play} {i:Nat} {t:Tally} (h1:ixT (kT p zone) (pU zone ts p)=some i) (h2:(pU zone ts p)[i]? = some t):stepT zone ts p=(pU zone ts p).set i (upT t p):=by
 unfold stepT;rw [h1];simp only [h2]
structure TT (n:Nat) (ts:List Tally):Prop where
 len:ts.length<=n
 day:∀t∈ts,-1000000<=t.Day/\t.Day<=1000000
 many:∀t∈ts,0<=t.Many/\t.Many<=n
 lo:∀t∈ts,0<=t.Long/\t.Long<=86400000*n
 dif:ts.Pairwise (λa b=>sameK a b=false)
theorem H6 {a b:Tally}:sameK a b=sameK b a:=by
 rw [Bool.eq_iff_iff,Bq,Bq]
 exact⟨fun⟨h1,h2,f⟩=>⟨h1.symm,h2.symm,f.symm⟩,fun⟨h1,h2,f⟩=>⟨h1.symm,h2.symm,f.symm⟩⟩
theorem dayZ_in {p:Play} {zone:Int} (f:0<=p.At/\p.At<=345686399999) (h : -1440<=zone/\zone<=1440) : -1000000<=Oi p zone/\Oi p zone<=1000000:=by
 unfold Oi;omega
theorem L8 {zone:Int} {n:Nat} {ts:List Tally} {p:Play} (h:TT n ts) (F:0<=p.At/\p.At<=345686399999) (B : -1440<=zone/\zone<=1440):TT (n+1) (pU zone ts p):=by
 obtain ⟨h1,h2,o,j,A⟩:=h
 unfold pU
 cases hi:ixT (kT p zone) ts with
 | some i=>exact⟨by simp only [];omega,h2,λt f=>by have:=o t f;omega,λt f=>by have:=j t f;omega,A⟩
 | none =>
  have J:=dayZ_in F B
  refine⟨by simp;omega,λt f => ?_,λt f => ?_,λt f => ?_,?_⟩
  ·rcases List.mem_append.1 f with f|f
   ·exact h2 t f
   ·rw [List.mem_singleton.1 f];exact J
  ·rcases List.mem_append.1 f with f|f
   ·have:=o t f;omega
   ·rw [List.mem_singleton.1 f];show (0:Int)<=0/\(0:Int)<=_;omega
  ·rcases List.mem_append.1 f with f|f
   ·have:=j t f;omega
   ·rw [List.mem_singleton.1 f];show (0:Int)<=0/\(0:Int)<=_;omega
  ·refine List.pairwise_append.2 ⟨A,List.pairwise_singleton _ _,λa I b hb => ?_⟩
   rw [List.mem_singleton.1 hb,H6]
   exact MZ hi a I
theorem Uv {zone:Int} {n:Nat} {ts:List Tally} {p:Play} (h:TT n ts) (A:0<=p.At/\p.At<=345686399999) (hl:1<=p.Long/\p.Long<=86400000) (M : -1440<=zone/\zone<=1440):TT (n+1) (stepT zone ts p):=by
 obtain ⟨i,t,N,i2,i3⟩:=Mt zone ts p
 rw [Ml N i2]
 have R:=L8 h A M
 have O:∀x∈pU zone ts p,x.Many<=n/\x.Long<=86400000*n:=λx f=>by
  unfold pU at f
  split at f
  ·rcases List.mem_append.1 f with f|f
   ·exact⟨(h.many x f).2,(h.lo x f).2⟩
   ·rw [List.mem_singleton.1 f];show (0:Int)<=n/\(0:Int)<=86400000*n;omega
  ·exact⟨(h.many x f).2,(h.lo x f).2⟩
 have o:=List.mem_of_getElem? i2
 obtain ⟨Y,Z⟩:=O t o
 obtain ⟨h1,h2,L,J,W⟩:=R
 refine⟨by rw [List.length_set];exact h1,IL h2 (h2 t o),IL L ?_,IL J ?_,?_⟩
 ·have:=L t o;show 0<=t.Many+1/\t.Many+1<=((n+1:Nat):Int);omega
 ·have:=J t o;show 0<=t.Long+p.Long/\t.Long+p.Long<=86400000*((n+1:Nat):Int);omega
 ·refine List.pairwise_iff_getElem.2 (λa b F hb I => ?_)
  simp only [List.length_set]at F hb
  have A:=List.pairwise_iff_getElem.1 W a b F hb I
  obtain ⟨T,B⟩:=List.getElem?_eq_some_iff.1 i2
  have e:∀j (hj:j<(pU zone ts p).length),sameK (((pU zone ts p).set i (upT t p))[j]'(by rw [List.length_set];exact hj))=sameK (pU zone ts p)[j]/\∀k,sameK k (((pU zone ts p).set i (upT t p))[j]'(by rw [List.length_set];exact hj))=sameK k (pU zone ts p)[j]:=λj hj=>by
   rw [List.getElem_set]
   split
   ·rename_i e;subst e;rw [B];exact⟨rfl,λ_=>rfl⟩
   ·exact⟨rfl,λ_=>rfl⟩
  rw [(e a F).1,(e b hb).2];exact A
def DT (zone:Int) (l:List Play):List Tally:=l.foldl (stepT zone) []
theorem NS (zone:Int) (l:List Play) (p:Play):DT zone (l++[p])=stepT zone (DT zone l) p:=by unfold DT;rw [List.foldl_append];rfl
theorem IZ {zone:Int} (A : -1440<=zone/\zone<=1440):∀(l:List Play),(∀x∈l,0<=x.At/\x.At<=345686399999)->(∀x∈l,1<=x.Long/\x.Long<=86400000)->TT l.length (DT zone l):=by
 have key:∀(l:List Play) (n:Nat) (ts:List Tally),(∀x∈l,0<=x.At/\x.At<=345686399999)->(∀x∈l,1<=x.Long/\x.Long<=86400000)->TT n ts->TT (n+l.length) (l.foldl (stepT zone) ts):=by
  intro l
  induction l with
  | nil=>intro n ts _ _ h;exact h
  | cons p l B =>
   intro n ts j hl h
   have:=B (n+1) (stepT zone ts p) (λx o=>j x (by simp [o])) (λx o=>hl x (by simp [o])) (Uv h (j p (by simp)) (hl p (by simp)) A)
   rw [List.foldl_cons,List.length_cons,show n+(l.length+1)=n+1+l.length by omega];exact this
 intro l j hl
 have:=key l 0 [] j hl ⟨by simp,λt f=>(by cases f),λt f=>(by cases f),λt f=>(by cases f),List.Pairwise.nil⟩
 rw [Nat.zero_add]at this;exact this
theorem PM (a b:ByteArray):(a==b)=true↔a=b:=by
 obtain ⟨x⟩:=a
 obtain ⟨y⟩:=b
 refine⟨λh => ?_,λh => ?_⟩
 ·have h1:(x==y)=true:=h
  rw [eq_of_beq h1]
 ·cases h
  show (x==x)=true
  exact beq_self_eq_true x
theorem PK {eq:Tally->Tally->Bool} {k:Tally} (he:∀a b:Tally,eq a b=(eqS a.Player b.Player&&(eqS a.Item b.Item&&(eqI a.Day b.Day&&(eqI a.Many b.Many&&(eqI a.Long b.Long&&true)))))) (f:k.Many=0/\k.Long=0):∀{es:List (Tally×Tally)},(∀e∈es,e.1=⟨e.2.Player,e.2.Item,e.2.Day,0,0⟩)->wU eq k es=ixT k (es.map (·.2))
 | [],_=>rfl
 | e::es,h=>by
  have h1:=h e (by simp)
  have hs:eq k e.1=sameK k e.2:=by
   rw [he,h1]
   simp only [f.1,f.2,eqI,eqS,beq_self_eq_true,Bool.and_true]
   unfold sameK
   have o:(k.Player==e.2.Player)=decide (e.2.Player=k.Player):=by rw [Bool.eq_iff_iff,PM,decide_eq_true_eq];exact eq_comm
   have a2:(k.Item==e.2.Item)=decide (e.2.Item=k.Item):=by rw [Bool.eq_iff_iff,PM,decide_eq_true_eq];exact eq_comm
   have a3:(k.Day==e.2.Day)=decide (e.2.Day=k.Day):=by rw [Bool.eq_iff_iff,beq_iff_eq,decide_eq_true_eq];exact eq_comm
   rw [o,a2,a3]
  have j:=PK he f (es:=es) (λx A=>h x (List.mem_cons_of_mem _ A))
  simp only [wU,List.map_cons,ixT,hs,j]
def ES (es:List (Tally×Tally)) (ts:List Tally):Prop:=es.map (·.2)=ts/\∀e∈es,e.1=⟨e.2.Player,e.2.Item,e.2.Day,0,0⟩
theorem Rq {zone:Int} (O : -1440<=zone/\zone<=1440) {es:List (Tally×Tally)} {ts:List Tally} {n:Nat} (hn:n<=100) (hE:ES es ts) (h:TT n ts) {p:Play} (R:0<=p.At/\p.At<=345686399999) (hl:1<=p.Long/\p.Long<=86400000) (k:Nat) :
  ∃A,lG zone k p es=some (.go A)/\ES A (stepT zone ts p):=by
 obtain ⟨i,t,N,i2,i3⟩:=Mt zone ts p
 have T:=L8 h R O
 obtain ⟨hil,Y⟩:=List.getElem?_eq_some_iff.1 i2
 have W:=List.mem_of_getElem? i2
 have m1:=T.many t W
 have m2:=T.lo t W
 obtain ⟨L,J⟩:=hE
 generalize F:(λ(a b:Tally)=>(eqS a.Player b.Player&&(eqS a.Item b.Item&&(eqI a.Day b.Day&&(eqI a.Many b.Many&&(eqI a.Long b.Long&&true))))))=eq
 have he:∀a b:Tally,eq a b=(eqS a.Player b.Player&&(eqS a.Item b.Item&&(eqI a.Day b.Day&&(eqI a.Many b.Many&&(eqI a.Long b.Long&&true))))):=λa b=>by rw [<- F]
 unfold lG
 rw [day_eq R O,ob_]
 simp only [F]
 have hK:(⟨p.Player,p.Item,Oi p zone,0,0⟩:Tally)=kT p zone:=rfl
 simp only [hK]
 have hv:∃v,(bif (wU eq (kT p zone) es).isNone then (SC (wU eq (kT p zone) es)).bind λ_=>some (es++[(kT p zone,kT p zone)])else some es)=some v/\v.map (·.2)=pU zone ts p/\∀e∈v,e.1=⟨e.2.Player,e.2.Item,e.2.Day,0,0⟩:=by
  rw [PK he ⟨rfl,rfl⟩ J,L]
  unfold pU
  cases hi:ixT (kT p zone) ts with
  | none =>
   refine⟨_,rfl,by rw [List.map_append,L];rfl,λe f => ?_⟩
   rcases List.mem_append.1 f with f|f
   ·exact J e f
   ·rw [List.mem_singleton.1 f];rfl
  | some j=>exact⟨es,rfl,L,J⟩
 obtain ⟨v,Z,v2,v3⟩:=hv
 rw [Z,ob_,PK he ⟨rfl,rfl⟩ v3,v2,N,ob_]
 have hvl:v.length=(pU zone ts p).length:=by rw [<- v2,List.length_map]
 obtain ⟨e,g1,B⟩:∃e,v[i]? = some e/\e.2=t:=by
  have:=i2
  rw [<- v2,List.getElem?_map,Option.map_eq_some_iff]at this
  exact this
 have g3:=v3 e (List.mem_of_getElem? g1)
 simp only [g1,ob_]
 have o:∀y:Tally,y.Player=e.2.Player->y.Item=e.2.Item->y.Day=e.2.Day->ES (v.set i (e.1,y)) ((pU zone ts p).set i y):=λy y1 y2 y3=>by
  refine⟨by rw [List.map_set,v2],λx I => ?_⟩
  rcases List.mem_or_eq_of_mem_set I with I|I
  ·exact v3 x I
  ·rw [I];simp only [y1,y2,y3];exact g3
 obtain ⟨q1,q2⟩:=o ⟨e.2.Player,e.2.Item,e.2.Day,w64 (e.2.Many+1),e.2.Long⟩ rfl rfl rfl
 have M:wU eq (kT p zone) (v.set i (e.1,(⟨e.2.Player,e.2.Item,e.2.Day,w64 (e.2.Many+1),e.2.Long⟩:Tally)))=some i:=by
  rw [PK he ⟨rfl,rfl⟩ q2,q1,Py (i:=i) (x:=t) (by rw [B];rfl) i2];exact N
 rw [M,ob_]
 simp only [set_atK (show i<v.length by omega),ob_,List.set_set]
 refine⟨_,rfl,?_⟩
 rw [Ml N i2]
 have:=o (upT t p) (by rw [B];rfl) (by rw [B];rfl) (by rw [B];rfl)
 have hy:(⟨e.2.Player,e.2.Item,e.2.Day,w64 (e.2.Many+1),w64 (e.2.Long+p.Long)⟩:Tally)=upT t p:=by
  rw [B,dh (n:=t.Many+1) (by omega),dh (n:=t.Long+p.Long) (by omega)];rfl
 rw [hy];exact this
def ltT (a b:Tally):Prop:=lt a.Player b.Player\/a.Player=b.Player/\(lt a.Item b.Item\/a.Item=b.Item/\a.Day<b.Day)
def cT (a b:Tally):Int:=zU (AV a.Player b.Player) (zU (AV a.Item b.Item) (uy a.Day b.Day))
theorem Kc {a b:ByteArray} (h:lt a b):a≠b:=λk=>by rw [k]at h;exact fu _ h
theorem RN {a b:Int}:uy a b<0↔a<b:=by 
 unfold uy
 split
 ·omega
 ·split <;> omega
theorem EK {a b:Tally}:cT a b<0↔ltT a b:=by
 unfold cT zU ltT
 rcases jI a.Player b.Player with⟨h,e⟩|⟨h,e⟩|⟨h,e⟩
 ·rw [e];simp [h]
 ·rw [e,h]
  have o:¬lt b.Player b.Player:=fu _
  rcases jI a.Item b.Item with⟨h2,j⟩|⟨h2,j⟩|⟨h2,j⟩
  ·rw [j];simp [h2]
  ·rw [j,h2]
   have f:¬lt b.Item b.Item:=fu _
   simp [o,f,RN]
  ·have f:¬lt a.Item b.Item:=λk=>fu _ (lt_trans h2 k)
   have A:a.Item≠b.Item:=λk=>Kc h2 k.symm
   rw [j];simp [o,f,A]
 ·have o:¬lt a.Player b.Player:=λk=>fu _ (lt_trans h k)
  have f:a.Player≠b.Player:=λk=>Kc h k.symm
  rw [e];simp [o,f]
theorem JP {a b:Tally} (h:ltT a b) (k:ltT b a):False:=by
 rcases h with h|⟨h1,h⟩
 ·rcases k with k|⟨f,k⟩
  ·exact fu _ (lt_trans h k)
  ·exact Kc h f.symm
 ·rcases k with k|⟨f,k⟩
  ·exact Kc k h1.symm
  ·rcases h with h|⟨h2,h⟩
   ·rcases k with k|⟨j,k⟩
    ·exact fu _ (lt_trans h k)
    ·exact Kc h j.symm
   ·rcases k with k|⟨j,k⟩
    ·exact Kc k h2.symm
    ·omega
theorem ltT_cut {a b d:Tally} (h:ltT a d):ltT a b\/ltT b d:=by
 rcases Kv a.Player b.Player with p|p|p
 ·exact .inl (.inl p)
 ·rcases h with h|⟨h1,h⟩
  ·exact .inr (.inl (by rw [<- p];exact h))
  ·rcases Kv a.Item b.Item with q|q|q
   ·exact .inl (.inr ⟨p,.inl q⟩)
   ·rcases h with h|⟨h2,h⟩
    ·exact .inr (.inr ⟨p.symm.trans h1,.inl (by rw [<- q];exact h)⟩)
    ·rcases Int.lt_or_le a.Day b.Day with r|r
     ·exact .inl (.inr ⟨p,.inr ⟨q,r⟩⟩)
     ·exact .inr (.inr ⟨p.symm.trans h1,.inr ⟨q.symm.trans h2,by omega⟩⟩)
   ·rcases h with h|⟨h2,h⟩
    ·exact .inr (.inr ⟨p.symm.trans h1,.inl (lt_trans q h)⟩)
    ·exact .inr (.inr ⟨p.symm.trans h1,.inl (by rw [<- h2];exact q)⟩)
 ·rcases h with h|⟨h1,h⟩
  ·exact .inr (.inl (lt_trans p h))
  ·exact .inr (.inl (by rw [<- h1];exact p))
theorem ltT_tri {a b:Tally} (h:sameK a b=false):ltT a b\/ltT b a:=by
 have f:¬(b.Player=a.Player/\b.Item=a.Item/\b.Day=a.Day):=λk=>by
  have:=Bq.2 k;rw [h]at this;cases this
 rcases Kv a.Player b.Player with p|p|p
 ·exact .inl (.inl p)
 ·rcases Kv a.Item b.Item with q|q|q
  ·exact .inl (.inr ⟨p,.inl q⟩)
  ·rcases Int.lt_trichotomy a.Day b.Day with r|r|r
   ·exact .inl (.inr ⟨p,.inr ⟨q,r⟩⟩)
   ·exact absurd ⟨p.symm,q.symm,r.symm⟩ f
   ·exact .inr (.inr ⟨p.symm,.inr ⟨q.symm,r⟩⟩)
  ·exact .inr (.inr ⟨p.symm,.inl q⟩)
 ·exact .inr (.inl p)
theorem or3_eq (a b c:Int):kW [a,b,c]=some (zU a (zU b c)):=by
 unfold kW zU
 rw [jY (by simp)]
 have f:∀k (x:Int),nT k x ()=some (bif x != 0 then .ret x else .go ()):=λk x=>by
  unfold nT;cases x != 0 <;> rfl
 cases ha:a==0 with
 | false =>
  have h1:(a != 0)=true:=by rw [bne,ha];rfl
  simp only [forR,f,h1,cond_true,ob_,cond_false];rfl
 | true =>
  have h1:(a != 0)=false:=by rw [bne,ha];rfl
  cases hb:b==0 with
  | false =>
   have h2:(b != 0)=true:=by rw [bne,hb];rfl
   simp only [forR,f,h1,h2,cond_true,cond_false,ob_];rfl
  | true =>
   have h2:(b != 0)=false:=by rw [bne,hb];rfl
   cases hc:c==0 with
   | false =>
    have h:(c != 0)=true:=by rw [bne,hc];rfl
    simp only [forR,f,h1,h2,h,cond_true,cond_false,ob_];rfl
   | true =>
    have h:(c != 0)=false:=by rw [bne,hc];rfl
    have:c=0:=eq_of_beq hc
    subst this
    simp only [forR,f,h1,h2,h,cond_true,cond_false,ob_];rfl
theorem cmpC_eq (a b:Tally):mo a b=some (cT a b):=by
 unfold mo cT
 simp only [uE,sK,or3_eq,ob_]
theorem JC {ts r:List Tally} (f:ts.Pairwise (λa b=>sameK a b=false)) (j:r.Perm ts) (hs:r.Pairwise (λa b=>¬cT b a<0)):r.Pairwise ltT:=by
 have h1:r.Pairwise (λa b=>sameK a b=false):=(j.pairwise_iff (λ{a b} h=>by rw [H6];exact h)).2 f
 refine (List.Pairwise.and h1 hs).imp (λ{a b} ⟨h,k⟩ => ?_)
 rw [EK]at k
 rcases ltT_tri h with q|q
 ·exact q
 ·exact absurd q k
theorem len_ok:∀n:Nat,n<=12->∃k,kI (IntKind.u64.wrap (n:Int))=some k:=by
 have h:(List.range 13).all (λn=>(kI (IntKind.u64.wrap (n:Int))).isSome)=true:=by kernel_rfl
 intro n f
 have:=List.all_eq_true.1 h n (by simp;omega)
 exact Option.isSome_iff_exists.1 this
theorem sort12 {α:Type} {cmp:α->α->Option Int} (c:α->α->Int) {S:List α->Option (List α)} (N:∀x,S x=(kI (IntKind.u64.wrap (x.length:Int))).bind λr_3=>(OV cmp x 0 (x.length:Int) B).bind λr_5=>(fw j x).bind λ_=>some j)
  {xs:List α} (hl:xs.length<=12) (L:∀a∈xs,∀b∈xs,cmp a b=some (c a b)) (f:∀a b,c a b<0->¬c b a<0) (A:∀a b d,¬c a b<0->¬c b d<0->¬c a d<0) :
  ∃r,S xs=some r/\r.Perm xs/\r.Pairwise (λa b=>¬c b a<0):=by
 obtain ⟨k,F⟩:=len_ok xs.length hl
 obtain ⟨s,h1,h2,M⟩:=pdq_ok (cmp:=cmp) (le:=λa b=>¬c b a<0) (p:=(· ∈ xs)) (λa b I hb=>⟨c a b,L a I b hb,λh=>f a b h,λh=>h⟩) (λa b d h k=>A d b a k h) xs hl (λx J=>J) k
 refine⟨s,?_,h2,M⟩
 have o:fw s xs=some ():=by unfold fw;rw [if_pos h2.length_eq]
 rw [N,F,ob_,h1,ob_,o];rfl
theorem QA {ts:List Tally} {n:Nat} (h:TT n ts) (hl:ts.length<=12):∃r,r.Perm ts/\∀f,f.Perm ts->bO f=some r:=by
 have o:∀a b,cT a b<0->¬cT b a<0:=λa b h k=>JP (EK.1 h) (EK.1 k)
 have A:∀a b d,¬cT a b<0->¬cT b d<0->¬cT a d<0:=λa b d h k q=>by
  rcases ltT_cut (b:=b) (EK.1 q)with e|e
  ·exact h (EK.2 e)
  ·exact k (EK.2 e)
 have F:∀xs:List Tally,xs.length<=12->∃r,bO xs=some r/\r.Perm xs/\r.Pairwise (λa b=>¬cT b a<0):=λxs M =>
  sort12 (cmp:=mo) (S:=bO) cT (λ_=>rfl) (xs:=xs) M (λa _ b _=>cmpC_eq a b) o A
 obtain ⟨r,O,j,J⟩:=F ts hl
 refine⟨r,j,λout ho => ?_⟩
 obtain ⟨N,L,B,I⟩:=F f (by rw [ho.length_eq];exact hl)
 rw [L]
 congr 1
 exact List.Perm.eq_of_pairwise (le:=ltT) (λx y _ _ h1 h2=>(JP h1 h2).elim) (JC h.dif (B.trans ho) I) (JC h.dif j J) ((B.trans ho).trans j.symm)
theorem told {es:List (Tally×Tally)} (hl:es.length<=1000):∀(l:List (Nat×Tally)) (f:List Tally),f.length+l.length<=2000->(∀e∈l,e.1<es.length)->D5 (λx s=>kw es x s) l f=some (.go (f++l.filterMap λe=>(es[e.1]?).map (·.2)))
 | [],f,_,_=>by simp [D5]
 | e::l,f,h,j=>by
  have he:=j e (by simp)
  simp only [List.length_cons]at h
  rw [D5]
  have:kw es e f=some (.go (f++[es[e.1].2])):=by
   unfold kw
   rw [List.getElem?_eq_getElem he,ob_,gL _ _ (by simp;omega)];rfl
  rw [this,ob_]
  show D5 (λx s=>kw es x s) l (f++[es[e.1].2])=_
  rw [told hl l _ (by simp;omega) (λx o=>j x (by simp [o])),List.filterMap_cons,List.getElem?_eq_getElem he]
  simp
theorem Cf {α β:Type} {f:α->Option β} {g:α->β}:∀{l:List α},(∀e∈l,f e=some (g e))->l.filterMap f=l.map g
 | [],_=>rfl
 | e::l,h=>by
  rw [List.filterMap_cons,h e (by simp),List.map_cons,Cf (λx j=>h x (List.mem_cons_of_mem _ j))]
theorem OP {l:List Play} (h:VP l) (hl:l.length<=12) {zone:Int} (I : -1440<=zone/\zone<=1440) (hv:Om l=0):∃r,rH l zone=some (r,0)/\r.Perm (DT zone l):=by
 have O:=IZ I l h.at_ h.lo
 have R:=O.len
 obtain ⟨r,T,r3⟩:=QA O (by omega)
 have o:∀(k:Nat) (x:Play),l[k]? = some x->l.take (k+1)=l.take k++[x]:=λk x j=>by rw [List.take_add_one,j];rfl
 have B:∀k:Nat,TT (l.take k).length (DT zone (l.take k)):=λk=>IZ I _ (λx j=>h.at_ x (List.mem_of_mem_take j)) (λx j=>h.lo x (List.mem_of_mem_take j))
 have L:∀k:Nat,(l.take k).length<=12:=λk=>by rw [List.length_take];omega
 refine⟨r,?_,T⟩
 ·unfold rH
  rw [Ce h.good (by omega),hv,ob_]
  simp only [bne_self_eq_false,cond_false,nk,rP I,ob_]
  obtain ⟨es,Y,M⟩:=qA (body:=λk x s=>lG zone k x s) (λk s=>ES s (DT zone (l.take k))) (xs:=l) (s:=([]:List (Tally×Tally))) (by omega) (λk x s j hI=>by
   have W:=List.mem_of_getElem? j
   have hkk:=L k
   obtain ⟨J,q1,q2⟩:=Rq I (n:=(l.take k).length) (by omega) hI (B k) (h.at_ x W) (h.lo x W) k
   exact⟨J,q1,by rw [o k x j,NS];exact q2⟩) ⟨rfl,λe he=>by cases he⟩
  rw [List.take_length]at M
  rw [Y]
  simp only [ob_,thenC]
  have hel:es.length=(DT zone l).length:=by rw [<- M.1,List.length_map]
  refine Tf (λl' N => ?_)
  have A:∀e∈F,e.1<es.length:=λe he=>by
   have:=N.mem_iff.1 he
   unfold pmL at this
   obtain ⟨i,hi,rfl⟩:=List.getElem_of_mem this
   simp only [List.length_mapIdx]at hi
   simp only [List.getElem_mapIdx];exact hi
  have Z:F.length=es.length:=by rw [N.length_eq];unfold pmL;simp
  rw [told (by omega) F [] (by simp only [List.length_nil];omega) A]
  simp only [ob_,thenC,List.nil_append]
  have f:(F.filterMap λe=>(es[e.1]?).map (·.2)).Perm (DT zone l):=by
   refine (N.filterMap _).trans (List.Perm.of_eq ?_)
   rw [<- M.1]
   have hf:(pmL es).filterMap (λe=>(es[e.1]?).map (·.2))=(pmL es).map (λe=>((es[e.1]?).map (·.2)).getD ⟨⟨#[]⟩,⟨#[]⟩,0,0,0⟩):=by
    refine Cf (λe he => ?_)
    unfold pmL at he
    obtain ⟨i,hi,rfl⟩:=List.getElem_of_mem he
    simp only [List.length_mapIdx]at hi
    simp only [List.getElem_mapIdx,List.getElem?_eq_getElem hi,Option.map_some,Option.getD_some]
   rw [hf]
   unfold pmL
   refine List.ext_getElem (by simp) (λi h1 h2 => ?_)
   simp only [List.length_map,List.length_mapIdx]at h1
   simp only [List.getElem_map,List.getElem_mapIdx,List.getElem?_eq_getElem h1,Option.map_some,Option.getD_some]
  rw [r3 _ f,ob_]
  have:fw r (F.filterMap λe=>(es[e.1]?).map (·.2))=some ():=by unfold fw;rw [if_pos (by rw [T.length_eq,f.length_eq])]
  rw [this];rfl
theorem maxJ_eq (a b:Int):jG a b=max a b:=by unfold jG;split <;> omega
def JQ (h w:Play):Int:=max (h.At-w.At) (w.At-h.At)
theorem Io {h w:Play} (h1:0<=h.At/\h.At<=345686399999) (h2:0<=w.At/\w.At<=345686399999):nu h.At w.At=some (JQ h w):=by
 unfold nu JQ
 rw [maxJ_eq,dh (n:=h.At-w.At) (by omega),dh (n:=w.At-h.At) (by omega)]
theorem innerE {f:List Play} (N:∀x∈f,0<=x.At/\x.At<=345686399999) {w:Play} (B:0<=w.At/\w.At<=345686399999) {tk:List Bool} (W:tk.length=f.length) (hl:f.length<=1000) (h:List Match) (most:Int) :
  ∃s:Int,forL f (-1) (λk x s=>jM (tk,h) w most f k x s)=some (.go s) /\ -1<=s/\s<f.length:=by
 have key:∀(k:Nat) (x:Play) (s:Int),f[k]? = some x->(-1<=s/\s<f.length)->∃F,jM (tk,h) w most f k x s=some (.go F)/\(-1<=F/\F<f.length):=λk x s o hs=>by
  have T:k<f.length:=(List.getElem?_eq_some_iff.1 o).1
  have I:=N x (List.mem_of_getElem? o)
  have J:tk[k]? = some (tk[k]'(by omega)):=List.getElem?_eq_getElem (by omega)
  generalize (tk[k]'(by omega))=t0 at J
  have O:((bif t0 then some true else bif (sNe x.Player w.Player)then some true else bif (sNe x.Item w.Item)then some true else (nu x.At w.At).bind λr_58=>some (decide (M>most))))=some (t0||(sNe x.Player w.Player||(sNe x.Item w.Item||decide (JQ x w>most)))):=by
   rw [Io I B]
   cases t0 <;> cases sNe x.Player w.Player <;> cases sNe x.Item w.Item <;> rfl
  unfold jM
  rw [zq (xs:=tk) (i:=(k:Int)) (by omega) (by omega),ob_,show 0+((k:Int)).toNat=k by omega,J,ob_,O,ob_]
  generalize R:(t0||(sNe x.Player w.Player||(sNe x.Item w.Item||decide (JQ x w>most))))=L
  cases L with
  | true=>exact⟨s,rfl,hs⟩
  | false =>
   simp only [cond_false]
   by_cases hneg:s<0
   ·rw [decide_eq_true hneg]
    exact⟨(k:Int),rfl,by omega⟩
   ·rw [decide_eq_false hneg]
    obtain ⟨j,rfl⟩:∃j:Nat,s=j:=⟨s.toNat,by omega⟩
    have hj:f[j]? = some (f[j]'(by omega)):=List.getElem?_eq_getElem (by omega)
    have A:=N _ (List.getElem_mem (show j<f.length by omega))
    simp only [cond_false,mf,hj,ob_,Io I B,Io A B]
    cases decide (JQ x w<JQ (f[j]'(by omega)) w)with
    | true=>exact⟨(k:Int),rfl,by omega⟩
    | false=>exact⟨(j:Int),rfl,by omega⟩
 obtain ⟨s,a,b⟩:=qA (body:=λk x s=>jM (tk,h) w most f k x s) (λ_ s => -1<=s/\s<f.length) (xs:=f) (s:=(-1:Int)) (by omega) (λk x s o hs=>key k x s o hs) (by omega)
 exact⟨s,a,b⟩
theorem QZ {f h:List Play} (R:VP f) (W:VP h) (B:fB f=some 0) (L:fB h=some 0) (hwl:f.length<=100) (hl:h.length<=100) {most:Int} (hm:0<=most/\most<=86400000) :
  ∃j left,qy f h most=some (j,left,0)/\j.length<=100:=by
 obtain ⟨u,N,u2,u3⟩:=qA (body:=λk x s=>mE h most k x s) (λk s=>s.1.length=h.length/\s.2.length=k) (xs:=f) (s:=(List.replicate h.length false,([]:List Match))) (by omega) (λk x s A ⟨o,Y⟩=>by
  have J:=(List.getElem?_eq_some_iff.1 A).1
  obtain ⟨tk,j⟩:=s
  simp only []at o Y
  obtain ⟨m,I,a2,a3⟩:=innerE W.at_ (R.at_ x (List.mem_of_getElem? A)) o (by omega) j most
  unfold mE
  rw [I]
  simp only [ob_,thenC]
  by_cases hs:m>=0
  ·have T:tk[0+m.toNat]? = some (tk[0+m.toNat]'(by omega)):=List.getElem?_eq_getElem (by omega)
   rw [decide_eq_true hs,cond_true,zq (xs:=tk) (i:=m) (by omega) (by omega),ob_,T,ob_,ob_,gL _ _ (by simp;omega)]
   exact⟨_,rfl,by rw [List.length_set];exact o,by simp;omega⟩
  ·rw [decide_eq_false hs,cond_false,ob_,gL _ _ (by simp;omega)]
   exact⟨_,rfl,o,by simp;omega⟩) ⟨by simp,rfl⟩
 obtain ⟨left,O,_⟩:=qA (body:=λk x s=>mX k x s) (λk s=>s.length<=k) (xs:=u.1) (s:=([]:List Int)) (by omega) (λk x s A hs=>by
  have J:=(List.getElem?_eq_some_iff.1 A).1
  unfold mX
  cases x with
  | true=>exact⟨s,rfl,by omega⟩
  | false =>
   rw [Bool.not_false,cond_true,gL _ _ (by simp;omega)]
   exact⟨_,rfl,by simp;omega⟩) (by simp)
 refine⟨u.2,left,?_,by omega⟩
 unfold qy
 have M:forL (List.range (2:Int).toNat) () (λk x s=>iW f h k x s)=some (.go ()):=by
  rw [jY (by simp)]
  have a0:iW f h 0 0 ()=some (.go ()):=by
   unfold iW
   have:idx ([f,h]:List (List Play)) ((0:Nat):Int)=some f:=rfl
   rw [this,ob_,B];rfl
  have I:iW f h (0+1) 1 ()=some (.go ()):=by
   unfold iW
   have:idx ([f,h]:List (List Play)) ((0+1:Nat):Int)=some h:=rfl
   rw [this,ob_,L];rfl
  have Z:List.range (2:Int).toNat=[0,1]:=rfl
  rw [Z]
  simp only [forR,a0,I,ob_]
 rw [M]
 simp only [ob_,thenC,nk,rP hm,cond_false]
 have F:mkN (h.length:Int) 1=some h.length:=by
  unfold mkN
  rw [if_pos (by omega)];simp
 rw [F,ob_,N]
 simp only [ob_,thenC,O]
theorem rootIt:∀(m:Nat) (l:List ByteArray),l.length=m->0<m->m<=1000000->(∀x∈l,ShortK x)->∃n r,ShortK r/\iterN (λs=>lZ s) n l=some (.go [r]):=by
 intro m
 induction m using Nat.strongRecOn with
 | ind m o =>
  intro l hl A B hs
  by_cases h1:1<m
  ·have h:decide ((l.length:Int)>1)=true:=decide_eq_true (by omega)
   obtain ⟨n,r,j,h2⟩:=o ((m+1) / 2) (by omega) (l8 l) (by rw [AP,hl]) (by omega) (by omega) (xW l hs)
   refine⟨n+1,r,j,?_⟩
   have f:lZ l=some (.go (l8 l)):=by
    unfold lZ
    rw [h,Pn l (by omega) hs];rfl
   simp only [iterN,f,ob_];exact h2
  ·have h:decide ((l.length:Int)>1)=false:=decide_eq_false (by omega)
   obtain ⟨r,rfl⟩:∃r,l=[r]:=List.length_eq_one_iff.1 (by omega)
   refine⟨1,r,hs r (by simp),?_⟩
   simp only [iterN]
   unfold lZ
   rw [h];rfl
theorem rootOk (l:List Log_) (h:∀x∈l,wI x) (hl:l.length<=1000000) (o:Fu l=0):∃r,ShortK r/\wK l=some (r,0):=by
 unfold wK
 rw [Qc l h hl,PL l h hl,o]
 simp only [ob_,bne_self_eq_false,cond_false]
 cases l with
 | nil =>
  refine⟨mk [],vM _,?_⟩
  have f:(((List.map BX ([]:List Log_)).length:Int)==0)=true:=rfl
  rw [f]
  simp only [cond_true]
  rw [show (⟨#[]⟩:ByteArray)=BB [] from rfl,TV [] (by simp)]
  simp only [ob_]
 | cons x l =>
  obtain ⟨n,r,j,h2⟩:=rootIt _ ((x::l).map BX) rfl (by simp) (by simpa using hl) (λy A=>by obtain ⟨z,_,rfl⟩:=List.mem_map.1 A;exact Ac z)
  have f:(((List.map BX (x::l)).length:Int)==0)=false:=by simp;omega
  refine⟨r,j,?_⟩
  rw [f]
  simp only [cond_false]
  rw [dB h2]
  rfl
theorem pathIt:∀(m:Nat) (l:List ByteArray) (i:Nat) (f:List ByteArray),l.length=m->0<m->m<=1000000->i<m->(∀x∈l,ShortK x)->(∀x∈f,ShortK x)->f.length+m<=10000000 ->
  ∃n s,iterN (λs=>kJ s) n (f,(i:Int),l)=some (.go s)/\(∀x∈s.1,ShortK x)/\s.1.length<=10000000:=by
 intro m
 induction m using Nat.strongRecOn with
 | ind m R =>
  intro l i f hl Y Z hi hs ho N
  by_cases h1:1<m
  ·have I:decide ((l.length:Int)>1)=true:=decide_eq_true (by omega)
   obtain ⟨j,hj,O⟩:=xor1 (i:=i) (by omega)
   have A:w64 ((i:Int).tdiv 2)=((i / 2:Nat):Int):=by
    rw [show (i:Int).tdiv 2=((i / 2:Nat):Int) from rfl,dh (by omega)]
   obtain ⟨h,F,L,W⟩:∃h:List ByteArray,(∀x∈h,ShortK x)/\h.length<=f.length+1/\(bif (decide ((j:Int)<(l.length:Int)))then (idx l (j:Int)).bind λy_29=>(ku f ([M]:List ByteArray)).bind λa_31=>some J else some f)=some h:=by
    by_cases hjl:j<l.length
    ·rw [decide_eq_true (show (j:Int)<(l.length:Int) by omega),Lj hjl]
     simp only [cond_true,ob_]
     rw [gL _ _ (by simp;omega)]
     refine⟨f++[l[j]],λx B => ?_,by simp,rfl⟩
     rcases List.mem_append.1 B with B|B
     ·exact ho x B
     ·rw [List.mem_singleton.1 B];exact hs _ (List.getElem_mem _)
    ·rw [decide_eq_false (show ¬(j:Int)<(l.length:Int) by omega)]
     exact⟨f,ho,by omega,rfl⟩
   obtain ⟨n,s,h2,T⟩:=R ((m+1) / 2) (by omega) (l8 l) (i / 2) h (by rw [AP,hl]) (by omega) (by omega) (by omega) (xW l hs) F (by omega)
   refine⟨n+1,s,?_,T⟩
   have o:kJ (f,(i:Int),l)=some (.go (h,((i / 2:Nat):Int),l8 l)):=by
    unfold kJ
    simp only [I,cond_true,hj,A]
    rw [W]
    simp only [ob_]
    rw [Pn l (by omega) hs];rfl
   simp only [iterN,o,ob_];exact h2
  ·have I:decide ((l.length:Int)>1)=false:=decide_eq_false (by omega)
   refine⟨1,(f,(i:Int),l),?_,ho,by show f.length<=_;omega⟩
   simp only [iterN]
   unfold kJ
   simp only [I,cond_false,ob_]
theorem pathOk (l:List Log_) (h:∀x∈l,wI x) (hl:l.length<=1000) (A:Fu l=0):∃p e,(∀x∈p,ShortK x)/\p.length<=10000000/\wB l 0=some (p,e):=by
 unfold wB
 rw [Qc l h (by omega),PL l h (by omega),A]
 simp only [ob_,nk,bne_self_eq_false,cond_false]
 rw [dh (by omega)]
 cases ho:l7 0 0 ((l.length:Int)-1)with
 | true=>exact⟨[],_,(λx f=>by cases f),by simp,rfl⟩
 | false =>
  have hb:=Bg ho
  obtain ⟨n,s,h1,I,B⟩:=pathIt _ (l.map BX) 0 [] rfl (by simp;omega) (by rw [List.length_map];omega) (by rw [List.length_map];omega) (λy F=>by obtain ⟨z,_,rfl⟩:=List.mem_map.1 F;exact Ac z) (λx f=>by cases f) (by rw [List.length_map];simp;omega)
  refine⟨s.1,0,I,B,?_⟩
  show ((dS (([]:List ByteArray),((0:Nat):Int),List.map BX l) (λs=>kJ s)).bind λo_22=>thenC j (λs_16=>some (o.1,(0:Int))) (λ_=>none))=_
  rw [dB h1];rfl
theorem TG:∀(m:Nat) (i:Nat) (f:List ByteArray) (at_:ByteArray),m<=1000000->i<m->(∀x∈f,ShortK x)->ShortK at_->f.length<=100000000 ->
  (∃n s,iterN (λs=>eX s) n ((m:Int),(i:Int),f,at_)=some (.go s)) \/
  (∃n,iterN (λs=>eX s) n ((m:Int),(i:Int),f,at_)=some (.ret (false,0))):=by
 intro m
 induction m using Nat.strongRecOn with
 | ind m T =>
  intro i f at_ hm hi N O F
  by_cases h1:1<m
  ·have I:decide ((m:Int)>1)=true:=decide_eq_true (by omega)
   obtain ⟨j,hj,hj2⟩:=xor1 (i:=i) (by omega)
   have B:w64 ((i:Int).tdiv 2)=((i / 2:Nat):Int):=by
    rw [show (i:Int).tdiv 2=((i / 2:Nat):Int) from rfl,dh (by omega)]
   have h:w64 ((w64 ((m:Int)+1)).tdiv 2)=(((m+1) / 2:Nat):Int):=by
    rw [dh (n:=(m:Int)+1) (by omega),show ((m:Int)+1).tdiv 2=(((m+1) / 2:Nat):Int) from rfl,dh (by omega)]
   by_cases hjm:m<=j
   ·have A:decide ((j:Int)>=(m:Int))=true:=decide_eq_true (by omega)
    have J:eX ((m:Int),(i:Int),f,at_)=some (.go ((((m+1) / 2:Nat):Int),((i / 2:Nat):Int),f,at_)):=by
     unfold eX
     simp only [I,cond_true,hj,A,B,h]
    rcases T ((m+1) / 2) (by omega) (i / 2) f at_ (by omega) (by omega) N O F with⟨n,s,h2⟩|⟨n,h2⟩
    ·exact .inl ⟨n+1,s,by simp only [iterN,J,ob_];exact h2⟩
    ·exact .inr ⟨n+1,by simp only [iterN,J,ob_];exact h2⟩
   ·have A:decide ((j:Int)>=(m:Int))=false:=decide_eq_false (by omega)
    cases f with
    | nil =>
     refine .inr ⟨1,?_⟩
     simp only [iterN]
     unfold eX
     simp only [I,cond_true,hj,A,cond_false]
     rfl
    | cons p f =>
     have e0:(((p::f).length:Int)==0)=false:=by simp;omega
     have e1:idx (p::f) 0=some p:=rfl
     have Z:Md (p::f) 1 ((p::f).length:Int)=some f:=by
      unfold Md
      rw [if_pos ⟨by omega,by omega,by simp,by simp⟩]
      simp
     have L:=N p (by simp)
     have R:(i:Int).tmod 2=((i % 2:Nat):Int):=rfl
     obtain ⟨o,M,c1⟩:∃o:ByteArray,ShortK o/\(bif (((i % 2:Nat):Int)==1)then (ny p at_).bind λr_30=>some Y else (ny at_ p).bind λr_34=>some W)=some o:=by
      rw [Sm L O,Sm O L]
      rcases Nat.mod_two_eq_zero_or_one i with h2|h2
      ·rw [h2];exact⟨_,AZ _ _,rfl⟩
      ·rw [h2];exact⟨_,AZ _ _,rfl⟩
     have J:eX ((m:Int),(i:Int),p::f,at_)=some (.go ((((m+1) / 2:Nat):Int),((i / 2:Nat):Int),f,o)):=by
      unfold eX
      simp only [I,cond_true,hj,A,cond_false,e0,e1,Z,R,ob_,B,h]
      rw [c1];rfl
     simp only [List.length_cons]at F
     rcases T ((m+1) / 2) (by omega) (i / 2) f o (by omega) (by omega) (λx hx=>N x (List.mem_cons_of_mem _ hx)) M (by omega)with⟨n,s,h2⟩|⟨n,h2⟩
     ·exact .inl ⟨n+1,s,by simp only [iterN,J,ob_];exact h2⟩
     ·exact .inr ⟨n+1,by simp only [iterN,J,ob_];exact h2⟩
  ·have I:decide ((m:Int)>1)=false:=decide_eq_false (by omega)
   refine .inl ⟨1,((m:Int),(i:Int),f,at_),?_⟩
   simp only [iterN]
   unfold eX
   simp only [I,cond_false,ob_]
theorem IM (f:ByteArray->Option Bool) (g:ByteArray->Bool):∀(l:List ByteArray) (k:Nat),(∀x∈l,f x=some (g x))->∃c,forR (λk x s=>bS f k x s) l k ()=some c /\
  (l.any g=true->∃j:Nat,c = .ret (j:Int))/\(l.any g=false->c = .go ())
 | [],k,h=>⟨_,rfl,(λh=>by cases h),λ_=>rfl⟩
 | x::l,k,h=>by
  obtain ⟨c,h1,h2,B⟩:=IM f g l (k+1) (λy A=>h y (List.mem_cons_of_mem _ A))
  cases hg:g x with
  | true =>
   refine⟨.ret (k:Int),?_,λ_=>⟨k,rfl⟩,λh=>by simp [hg]at h⟩
   simp only [forR]
   unfold bS
   rw [h x (by simp),hg];rfl
  | false =>
   refine⟨c,?_,λh=>h2 (by simpa [hg]using h),λh=>B (by simpa [hg]using h)⟩
   have o:bS f k x ()=some (.go ()):=by
    unfold bS
    rw [h x (by simp),hg];rfl
   simp only [forR,o,ob_]
   exact h1
theorem Jf (l:List ByteArray) (f:ByteArray->Option Bool) (g:ByteArray->Bool) (hl:l.length<=1000000000) (h:∀x∈l,f x=some (g x)):dE l f=some (l.any g):=by
 unfold dE gH
 obtain ⟨c,h1,h2,o⟩:=IM f g l 0 h
 rw [jY (by omega),h1]
 cases ha:l.any g with
 | true =>
  obtain ⟨j,rfl⟩:=h2 ha
  simp only [ob_,Jy]
  have:decide ((j:Int)>=0)=true:=decide_eq_true (by omega)
  rw [this]
 | false =>
  rw [o ha];rfl
def JV (f:ByteArray) (many i:Int) (y:Log_) (h:List ByteArray):Int :=
 bif !uq f then 3 else bif (l7 many 1 2000||l7 i 0 (many-1))then 1 else bif wT y != 0 then wT y else bif (!uq y.Sum||h.any λm => !uq m)then 3 else 0
theorem SH (h:ByteArray) (many i:Int) (y:Log_) (f:List ByteArray) (B:ShortK h) (J : -1000000<=many/\many<=1000000) (j:wI y) (F:∀x∈f,ShortK x) (hl:f.length<=1000000000) :
  lU h many i y f=some (JV h many i y f):=by
 have hc:=Jf f (λx0=>kG I) (λm => !uq m) hl (λx o=>by
  unfold kG
  rw [BG (F x o)];rfl)
 unfold lU JV
 rw [BG B,BG j.2.2.1,Fx j,hc,dh (by omega)]
 simp only [ob_,nk]
 generalize (f.any λm => !uq m)=A
 cases uq h <;> cases l7 many 1 2000 <;> cases l7 i 0 (many-1) <;> cases (wT y != 0) <;> cases uq y.Sum <;> cases A <;> rfl
theorem TH (h:ByteArray) (many i:Int) (y:Log_) (f:List ByteArray) (A:ShortK h) (B : -1000000<=many/\many<=1000000) (o:wI y) (j:∀x∈f,ShortK x) (hl:f.length<=100000000) :
  ∃v,pQ h many i y f=some v:=by
 unfold pQ
 rw [SH h many i y f A B o j (by omega),leafP o]
 simp only [ob_]
 by_cases hf:JV h many i y f=0
 ·have hb:l7 many 1 2000=false/\l7 i 0 (many-1)=false:=by
   unfold JV at hf
   cases h1:uq h <;> cases h2:l7 many 1 2000 <;> cases h3:l7 i 0 (many-1) <;> rw [h1,h2,h3]at hf <;> simp at hf ⊢
  have I:=Bg hb.1
  have F:=Bg hb.2
  have e:(JV h many i y f != 0)=false:=by simp [hf]
  rw [e]
  simp only [cond_false]
  obtain ⟨m,rfl⟩:∃m:Nat,many=m:=⟨many.toNat,by omega⟩
  obtain ⟨k,rfl⟩:∃k:Nat,i=k:=⟨i.toNat,by omega⟩
  rcases TG m k f (BX y) (by omega) (by omega) j (Ac y) hl with⟨n,s,h1⟩|⟨n,h1⟩
  ·rw [dB h1]
   simp only [ob_,jk]
   cases ((s.2.2.1.length:Int)==0) <;> exact⟨_,rfl⟩
  ·rw [dB h1]
   exact⟨_,rfl⟩
 ·have e:(JV h many i y f != 0)=true:=by simp [hf]
  rw [e]
  exact⟨_,rfl⟩
theorem cloneSE (l:List ByteArray) (hl:l.length<=1000000000):fQ l=some l:=by
 unfold fQ
 rw [gL [] l (by simpa using hl)]
 simp
def x9 {σ ρ:Type} (s:σ) (body:σ->Option (Ctl σ ρ)):Option (Ctl σ ρ):=iterN body 300 s
def Le {α:Type} (a b:Option α):Prop:=∀r,a=some r->b=some r
theorem Le.refl {α:Type} (a:Option α):Le a a:=λ_ h=>h
theorem Le.bind {α β:Type} {a b:Option α} {f g:α->Option β} (h:Le a b) (k:∀x,Le (f x) (g x)):Le (a.bind f) (b.bind g):=λr e=>by
 obtain ⟨x,h1,h2⟩:=Option.bind_eq_some_iff.1 e
 rw [h x h1];exact k x r h2
theorem Le.cond {α:Type} {a b c d:Option α} {t:Bool} (h:Le a c) (k:Le b d):Le (bif t then a else b) (bif t then c else d):=by
 cases t
 ·exact k
 ·exact h
theorem Le.thenC {σ ρ τ:Type} {o:Ctl σ ρ} {f j:σ->Option τ} {g A:ρ->Option τ} (h:∀x,Le (f x) (j x)) (k:∀x,Le (g x) (A x)):Le (Go.Eng.thenC o f g) (Go.Eng.thenC o j A):=by
 cases o
 ·exact h _
 ·exact Le.refl _
 ·exact k _
theorem Le.forR {α σ ρ:Type} {b b':Nat->α->σ->Option (Ctl σ ρ)} (h:∀k x s,Le (b k x s) (b' k x s)):∀(xs:List α) (k:Nat) (s:σ),Le (Go.Eng.forR b xs k s) (Go.Eng.forR b' xs k s)
 | [],k,s=>Le.refl _
 | x::xs,k,s=>Le.bind (h k x s) (λc=>by
   cases c with
   | go f=>exact Le.forR h xs _ _
   | brk f=>exact Le.refl _
   | ret r=>exact Le.refl _)
theorem Le.forL {α σ ρ:Type} {xs:List α} {s:σ} {b b':Nat->α->σ->Option (Ctl σ ρ)} (h:∀k x s,Le (b k x s) (b' k x s)):Le (Go.Eng.forL xs s b) (Go.Eng.forL xs s b'):=by
 unfold Go.Eng.forL
 split
 ·exact Le.forR h xs 0 s
 ·exact Le.refl _
theorem Le.iterN {σ ρ:Type} {b b':σ->Option (Ctl σ ρ)} (h:∀s,Le (b s) (b' s)):∀(n:Nat) (s:σ),Le (Go.Eng.iterN b n s) (Go.Eng.iterN b' n s)
 | 0,s=>Le.refl _
 | n+1,s=>Le.bind (h s) (λc=>by
   cases c with
   | go f=>exact Le.iterN h n f
   | brk f=>exact Le.refl _
   | ret r=>exact Le.refl _)
theorem Le.loop {σ ρ:Type} {s:σ} {b b':σ->Option (Ctl σ ρ)} (h:∀s,Le (b s) (b' s)):Le (x9 s b) (dS s b'):=λr e=>dB (Le.iterN h _ _ r e)
def QC (x:Int):List Int->List Int
 | []=>[x]
 | y::l=>bif decide (x<=y)then x::y::l else y::QC x l
def IR:List Int->List Int
 | []=>[]
 | x::l=>QC x (IR l)
theorem Ea (x:Int):∀l,(QC x l).Perm (x::l)
 | [] => .refl _
 | y::l=>by
  unfold QC
  cases decide (x<=y)with
  | true=>exact .refl _
  | false=>exact ((Ea x l).cons y).trans (List.Perm.swap x y l)
theorem Fa:∀l,(IR l).Perm l
 | [] => .refl _
 | x::l=>(Ea x _).trans ((Fa l).cons x)
theorem Fe (x:Int):∀l:List Int,l.Pairwise (· <= ·)->(QC x l).Pairwise (· <= ·)
 | [],_=>List.pairwise_singleton _ _
 | y::l,h=>by
  obtain ⟨h1,h2⟩:=List.pairwise_cons.1 h
  unfold QC
  by_cases hx:x<=y
  ·rw [decide_eq_true hx,cond_true]
   exact List.pairwise_cons.2 ⟨λz f=>by
    rcases List.mem_cons.1 f with rfl|f
    ·exact hx
    ·exact Int.le_trans hx (h1 z f),h⟩
  ·rw [decide_eq_false hx,cond_false]
   exact List.pairwise_cons.2 ⟨λz f=>by
    rcases List.mem_cons.1 ((Ea x l).mem_iff.1 f)with rfl|f
    ·omega
    ·exact h1 z f,Fe x l h2⟩
theorem Ch:∀l,(IR l).Pairwise (· <= ·)
 | [] => .nil
 | x::l=>Fe x _ (Ch l)
theorem Rp (l:List Int):l.mergeSort (λx y=>decide (x<=y))=IR l:=by
 refine List.Perm.eq_of_pairwise (le:=(· <= ·)) (λa b _ _ h1 h2=>Int.le_antisymm h1 h2) ?_ (Ch l) ((List.mergeSort_perm l _).trans (Fa l).symm)
 have:=List.pairwise_mergeSort (le:=λ(x y:Int)=>decide (x<=y)) (λa b c=>by simp;omega) (λa b=>by simp;omega) l
 exact this.imp (by simp)
def TF (l:List Int):Option (List Int):=bif Nat.ble l.length 1000 then some (IR l)else none
theorem S9 (l:List Int):Le (TF l) (dw l):=λr h=>by
 unfold TF at h
 cases hb:Nat.ble l.length 1000 with
 | false=>rw [hb]at h;cases h
 | true =>
  rw [hb,cond_true]at h
  have:=Nat.le_of_ble_eq_true hb
  unfold dw JH
  rw [if_pos (by omega),Rp];exact h
set_option maxRecDepth 100000
def jK (f:ByteArray):Option (Bool) :=
 (x9 0 (λs=>lM f s)).bind λo_10=>thenC j (λs_7=>(bif (sNe f (⟨#[]⟩:ByteArray))then some (decide ((f.size:Int)<=40))else some false).bind λv_30=>some h) (λr=>some r)
theorem lK (f:ByteArray):Le (jK f) (d9 f):=by
 unfold jK d9
 repeat' (with_reducible first|exact Le.refl _|refine Le.loop (λ_=>?_)|refine Le.thenC (λ_=>?_) (λ_=>?_)|refine Le.cond ?_ ?_|refine Le.bind ?_ (λ_=>?_))
def jV (j:(List Int)) (h:Int):Option (Ctl (Int) ((List Int))) :=
 bif (decide (h<(j.length:Int)))then (inR h j).bind λ_=>(j[(0+(h).toNat)]?).bind λe_15=>(inR (w64 (h-1)) j).bind λ_=>(j[(0+((w64 (h-1))).toNat)]?).bind λe_18=>bif (A==o)then (neL j).bind λ_=>(xQ j h (j.length:Int)).bind λ_=>(x9 (j,h,1) (λs=>iG j h s)).bind λo_31=>thenC B (λs_28=>(xQ f.1 f.2.1 (f.1.length:Int)).bind λ_=>(xQ (f.1.take ((f.2.1).toNat)++List.replicate (((f.1.length:Int)).toNat-(f.2.1).toNat) 0++f.1.drop (((f.2.1).toNat)+(((f.1.length:Int)).toNat-(f.2.1).toNat))) 0 f.2.1).bind λ_=>some (.ret (FJ (f.1.take ((f.2.1).toNat)++List.replicate (((f.1.length:Int)).toNat-(f.2.1).toNat) 0++f.1.drop (((f.2.1).toNat)+(((f.1.length:Int)).toNat-(f.2.1).toNat))) 0 ((f.2.1).toNat)))) (λ_=>none)else some (.go (w64 (h+1)))else some (.brk h)
theorem sG (h:(List Int)) (f:Int):Le (jV h f) (eZ h f):=by
 unfold jV eZ
 repeat' (with_reducible first|exact Le.refl _|refine Le.loop (λ_=>?_)|refine Le.thenC (λ_=>?_) (λ_=>?_)|refine Le.cond ?_ ?_|refine Le.bind ?_ (λ_=>?_))
def kN (f:(List Int)):Option ((List Int)) :=
 bif (decide ((f.length:Int)<2))then some f else (x9 1 (λs=>jV f s)).bind λo_11=>thenC h (λs_8=>some f) (λr=>some r)
theorem uI (f:(List Int)):Le (kN f) (gM f):=by
 unfold kN gM
 repeat' (with_reducible first|exact Le.refl _|exact sG _ _|refine Le.loop (λ_=>?_)|refine Le.thenC (λ_=>?_) (λ_=>?_)|refine Le.cond ?_ ?_|refine Le.bind ?_ (λ_=>?_))
def dR (j:Int) (h:Int) (f:(List Run)×Int):Option (Ctl ((List Run)×Int) (Unit)) :=
 bif (decide (f.2<j))then (x9 (f.1,f.2) (λs=>di h s)).bind λo_24=>thenC o (λs_21=>some (.go (A.1,(w64 (f.2+1))))) (λ_=>none)else some (.brk (f.1,f.2))
theorem lI (j:Int) (h:Int) (f:(List Run)×Int):Le (dR j h f) (bQ j h f):=by
 unfold dR bQ
 repeat' (with_reducible first|exact Le.refl _|refine Le.loop (λ_=>?_)|refine Le.thenC (λ_=>?_) (λ_=>?_)|refine Le.cond ?_ ?_|refine Le.bind ?_ (λ_=>?_))
def eT (f:(List Run)) (h:Int) (j:Int):Option ((List Run)) :=
 (x9 (f,(w64 (h+1))) (λs=>dR j h s)).bind λo_13=>thenC A (λs_10=>some o.1) (λ_=>none)
theorem mR (f:(List Run)) (h:Int) (j:Int):Le (eT f h j) (bW f h j):=by
 unfold eT bW
 repeat' (with_reducible first|exact Le.refl _|exact lI _ _ _|refine Le.loop (λ_=>?_)|refine Le.thenC (λ_=>?_) (λ_=>?_)|refine Le.bind ?_ (λ_=>?_))
def fG (A:Int) (j:Int) (f:(List Run)) (h:Int) (B:Unit):Option (Ctl (Unit) ((List Run))) :=
 bif (decide ((w64 (A-j))<=12))then (eT f j A).bind λr_17=>(fw o f).bind λ_=>some (.ret o)else bif (h==0)then none else none
theorem nI (A:Int) (o:Int) (h:(List Run)) (f:Int) (j:Unit):Le (fG A o h f j) (cZ A o h f j):=by
 unfold fG cZ
 repeat' (with_reducible first|exact Le.refl _|exact mR _ _ _|refine Le.cond ?_ ?_|refine Le.bind ?_ (λ_=>?_))
def gU (f:(List Run)) (j:Int) (o:Int) (h:Int):Option ((List Run)) :=
 (x9 () (λs=>fG o j f h s)).bind λo_14=>thenC A (λs_11=>some f) (λr=>some r)
theorem oM (h:(List Run)) (j:Int) (o:Int) (f:Int):Le (gU h j o f) (dx h j o f):=by
 unfold gU dx
 repeat' (with_reducible first|exact Le.refl _|exact nI _ _ _ _ _|refine Le.loop (λ_=>?_)|refine Le.thenC (λ_=>?_) (λ_=>?_)|refine Le.bind ?_ (λ_=>?_))
def fo (f:(List Run)):Option ((List Run)) :=
 (kI (IntKind.u64.wrap (f.length:Int))).bind λr_3=>(gU f 0 (f.length:Int) j).bind λr_5=>(fw h f).bind λ_=>some h
theorem ng (f:(List Run)):Le (fo f) (bX f):=by
 unfold fo bX
 repeat' (with_reducible first|exact Le.refl _|exact oM _ _ _ _|refine Le.bind ?_ (λ_=>?_))
def vC (j:(List Rect)) (o:Int):Option ((List Run)) :=
 (forL j ([]:List Run) (λk x s=>rW o k x s)).bind λo_14=>thenC A (λs_8=>(fo h).bind λr_27=>(fw f h).bind λ_=>(forL f ([]:List Run) (λk x s=>sw k x s)).bind λo_41=>thenC B (λs_35=>some F) (λ_=>none)) (λ_=>none)
theorem IQ (f:(List Rect)) (h:Int):Le (vC f h) (q8 f h):=by
 unfold vC q8
 repeat' (with_reducible first|exact Le.refl _|exact ng _|refine Le.forL (λ_ _ _=>?_)|refine Le.thenC (λ_=>?_) (λ_=>?_)|refine Le.bind ?_ (λ_=>?_))
def uG (j:(List Run)) (L:Nat) (h:Run) (o:(List Run)×Int):Option (Ctl ((List Run)×Int) (Unit)) :=
 (x9 o.2 (λs=>rY j h s)).bind λo_25=>thenC J (λs_22=>(x9 (o.1,A,h.f_from) (λs=>rZ j h s)).bind λo_43=>thenC I (λs_38=>(bif (decide (f.2.2<h.f_to))then (ku f.1 ([(⟨f.2.2,h.f_to⟩:Run)]:List Run)).bind λa_68=>some F else some f.1).bind λv_64=>some (.go (B,A))) (λ_=>none)) (λ_=>none)
theorem C9 (f:(List Run)) (h:Nat) (o:Run) (j:(List Run)×Int):Le (uG f h o j) (o5 f h o j):=by
 unfold uG o5
 repeat' (with_reducible first|exact Le.refl _|refine Le.loop (λ_=>?_)|refine Le.thenC (λ_=>?_) (λ_=>?_)|refine Le.cond ?_ ?_|refine Le.bind ?_ (λ_=>?_))
def yT (h:(List Run)) (f:(List Run)):Option ((List Run)) :=
 (forL h (([]:List Run),0) (λk x s=>uG f k x s)).bind λo_14=>thenC j (λs_8=>some o.1) (λ_=>none)
theorem Ic (h:(List Run)) (f:(List Run)):Le (yT h f) (uA h f):=by
 unfold yT uA
 repeat' (with_reducible first|exact Le.refl _|exact C9 _ _ _ _|refine Le.forL (λ_ _ _=>?_)|refine Le.thenC (λ_=>?_) (λ_=>?_)|refine Le.bind ?_ (λ_=>?_))
def rU (A:(List Int)) (F:(List Rect)) (B:(List Rect)) (j:Nat) (h:Int) (f:(List Rect)×(List Run)×Int):Option (Ctl ((List Rect)×(List Run)×Int) (Unit)) :=
 (bif (decide ((w64 ((j:Int)+1))<(A.length:Int)))then (vC F h).bind λr_45=>(vC B h).bind λr_47=>(yT O L).bind λr_49=>some N else some ([]:List Run)).bind λv_42=>(eU f.2.1 o).bind λr_51=>bif I then some (.go (f.1,f.2.1,f.2.2))else (forL f.2.1 f.1 (λk x s=>pg f h k x s)).bind λo_64=>thenC M (λs_59=>some (.go (J,o,h))) (λ_=>none)
theorem BH (h:(List Int)) (B:(List Rect)) (A:(List Rect)) (f:Nat) (j:Int) (o:(List Rect)×(List Run)×Int):Le (rU h B A f j o) (mh h B A f j o):=by
 unfold rU mh
 repeat' (with_reducible first|exact Le.refl _|exact IQ _ _|exact Ic _ _|refine Le.forL (λ_ _ _=>?_)|refine Le.thenC (λ_=>?_) (λ_=>?_)|refine Le.cond ?_ ?_|refine Le.bind ?_ (λ_=>?_))
def wC (o:(List Rect)) (f:(List Rect)):Option ((List Rect)) :=
 (fP ([o,f]:List (List Rect))).bind λr_3=>(forL J ([]:List Int) (λk x s=>pJ k x s)).bind λo_16=>thenC I (λs_10=>(TF j).bind λr_22=>(fw h j).bind λ_=>(kN h).bind λr_25=>(forL A (([]:List Rect),([]:List Run),0) (λk x s=>rU A o f k x s)).bind λo_38=>thenC B (λs_32=>some F.1) (λ_=>none)) (λ_=>none)
theorem EB (h:(List Rect)) (f:(List Rect)):Le (wC h f) (qp h f):=by
 unfold wC qp
 repeat' (with_reducible first|exact Le.refl _|exact uI _|exact BH _ _ _ _ _ _|exact S9 _|refine Le.forL (λ_ _ _=>?_)|refine Le.thenC (λ_=>?_) (λ_=>?_)|refine Le.bind ?_ (λ_=>?_))
def zg (f:(List Rect)):Option (Int×Int) :=
 (nX f).bind λr_2=>bif (h != 0)then some (0,h)else (wC f ([]:List Rect)).bind λr_5=>(xB j).bind λr_7=>some (o,0)
theorem IP (f:(List Rect)):Le (zg f) (uf f):=by
 unfold zg uf
 repeat' (with_reducible first|exact Le.refl _|exact EB _ _|refine Le.cond ?_ ?_|refine Le.bind ?_ (λ_=>?_))
def qa (j:(List ByteArray)) (f:Nat) (h:ByteArray) (F:Unit):Option (Ctl (Unit) (Int)) :=
 (jK h).bind λr_12=>bif (!o)then some (.ret 5)else (bif (decide ((f:Int)>0))then (idx j (w64 ((f:Int)-1))).bind λy_18=>some (sLe h B)else some false).bind λv_15=>bif A then some (.ret 7)else some (.go ())
theorem zX (f:(List ByteArray)) (j:Nat) (o:ByteArray) (h:Unit):Le (qa f j o h) (kS f j o h):=by
 unfold qa kS
 repeat' (with_reducible first|exact Le.refl _|exact lK _|refine Le.cond ?_ ?_|refine Le.bind ?_ (λ_=>?_))
def o8 (f:(List ByteArray)):Option (Int) :=
 (forL f () (λk x s=>qa f k x s)).bind λo_10=>thenC h (λs_7=>some 0) (λr=>some r)
theorem wG (f:(List ByteArray)):Le (o8 f) (lH f):=by
 unfold o8 lH
 repeat' (with_reducible first|exact Le.refl _|exact zX _ _ _ _|refine Le.forL (λ_ _ _=>?_)|refine Le.thenC (λ_=>?_) (λ_=>?_)|refine Le.bind ?_ (λ_=>?_))
def p8 (f:(List ByteArray)):Option (Int) :=
 bif (decide ((f.length:Int)>20))then some 2 else (o8 f).bind λr_3=>some h
theorem zW (f:(List ByteArray)):Le (p8 f) (kY f):=by
 unfold p8 kY
 repeat' (with_reducible first|exact Le.refl _|exact wG _|refine Le.cond ?_ ?_|refine Le.bind ?_ (λ_=>?_))
def o6 (f:Entry):Option (Int) :=
 ((jK f.Key).bind λr_5=>bif (!O)then some true else (jK f.Item).bind λr_8=>some (!T)).bind λv_3=>bif R then some 5 else ((aS f.Version 0 1000000).bind λr_13=>bif J then some true else (aS f.First 0 f.Last).bind λr_16=>bif L then some true else bif (decide (f.Last>4000))then some true else (aS f.Every 1 400).bind λr_20=>bif I then some true else (aS f.Days 1 127).bind λr_23=>some j).bind λv_11=>bif M then some 1 else (lS f.Except).bind λr_26=>bif (h != 0)then some h else ((aS f.From 0 1439).bind λr_31=>bif o then some true else (aS f.To 0 1439).bind λr_34=>bif N then some true else (aS f.Prio 0 9).bind λr_37=>some F).bind λv_29=>bif A then some 1 else (p8 f.Tags).bind λr_40=>some B
theorem y5 (f:Entry):Le (o6 f) (kH f):=by
 unfold o6 kH
 repeat' (with_reducible first|exact Le.refl _|exact lK _|exact zW _|refine Le.cond ?_ ?_|refine Le.bind ?_ (λ_=>?_))
def lC (o:(List Entry)) (h:Nat) (j:Entry) (F:Unit):Option (Ctl (Unit) (Int)) :=
 (o6 j).bind λr_14=>bif (f != 0)then some (.ret f)else (bif (decide ((h:Int)>0))then (idx o (w64 ((h:Int)-1))).bind λy_20=>some (sLe j.Key A.Key)else some false).bind λv_17=>bif B then some (.ret 7)else some (.go ())
theorem vk (f:(List Entry)) (h:Nat) (o:Entry) (j:Unit):Le (lC f h o j) (iC f h o j):=by
 unfold lC iC
 repeat' (with_reducible first|exact Le.refl _|exact y5 _|refine Le.cond ?_ ?_|refine Le.bind ?_ (λ_=>?_))
def nA (f:(List Entry)):Option (Int) :=
 bif (decide ((f.length:Int)>200))then some 2 else (forL f () (λk x s=>lC f k x s)).bind λo_11=>thenC h (λs_8=>some 0) (λr=>some r)
theorem xX (f:(List Entry)):Le (nA f) (jB f):=by
 unfold nA jB
 repeat' (with_reducible first|exact Le.refl _|exact vk _ _ _ _|refine Le.forL (λ_ _ _=>?_)|refine Le.thenC (λ_=>?_) (λ_=>?_)|refine Le.cond ?_ ?_|refine Le.bind ?_ (λ_=>?_))
def jZ (h:(List Int)) (f:Int):Option (Int×Bool) :=
 (x9 (0,(h.length:Int)) (λs=>gy h f s)).bind λo_11=>thenC A (λs_8=>(bif (decide (j.1<(h.length:Int)))then (idx h j.1).bind λy_24=>bif (J==f)then some true else (idx h j.1).bind λy_27=>(kL I).bind λr_29=>bif o then (kL f).bind λr_32=>some F else some false else some false).bind λv_21=>some (j.1,B)) (λ_=>none)
theorem sN (h:(List Int)) (f:Int):Le (jZ h f) (fF h f):=by
 unfold jZ fF
 repeat' (with_reducible first|exact Le.refl _|refine Le.loop (λ_=>?_)|refine Le.thenC (λ_=>?_) (λ_=>?_)|refine Le.cond ?_ ?_|refine Le.bind ?_ (λ_=>?_))
def uT (f:Entry) (h:Int):Option (Bool) :=
 ((aS h f.First f.Last).bind λr_6=>bif A then some true else (ME .i64 (w64 (h-f.First)) f.Every).bind λq_9=>bif (B != 0)then some true else (shlO .i64 1 (h.tmod 7)).bind λq_12=>some ((Eb .i64 f.Days j)==0)).bind λv_4=>bif F then some false else (jZ f.Except h).bind λr_15=>some (!o.2)
theorem Dj (h:Entry) (f:Int):Le (uT h f) (oU h f):=by
 unfold uT oU
 repeat' (with_reducible first|exact Le.refl _|exact sN _ _|refine Le.cond ?_ ?_|refine Le.bind ?_ (λ_=>?_))
def qH (j:Window) (h:Int) (A:Entry) (f:(List Window)×Int):Option (Ctl ((List Window)×Int) (Unit)) :=
 bif (decide (f.2<=(K9 (w64 ((w64 ((w64 (j.To+(w64 (h*60000)))).tdiv 86400000))+1)) A.Last)))then (uT A f.2).bind λr_24=>bif (!B)then some (.go (f.1,(w64 (f.2+1))))else (qz A h f.2).bind λr_27=>(bif (decide (o.From<j.To))then some (decide (o.To>j.From))else some false).bind λv_30=>(bif I then (ku f.1 ([o]:List Window)).bind λa_37=>some F else some f.1).bind λv_33=>some (.go (J,(w64 (f.2+1))))else some (.brk (f.1,f.2))
theorem Ad (h:Window) (f:Int) (o:Entry) (j:(List Window)×Int):Le (qH h f o j) (lL h f o j):=by
 unfold qH lL
 repeat' (with_reducible first|exact Le.refl _|exact Dj _ _|refine Le.cond ?_ ?_|refine Le.bind ?_ (λ_=>?_))
def uM (j:Entry) (h:Int) (f:Window):Option ((List Window)) :=
 (bif j.Gone then some true else some (decide (f.From>=f.To))).bind λv_6=>bif B then some ([]:(List Window))else (x9 (([]:List Window),(jG (w64 ((w64 ((w64 (f.From+(w64 (h*60000)))).tdiv 86400000))-2)) j.First)) (λs=>qH f h j s)).bind λo_21=>thenC o (λs_15=>some A.1) (λ_=>none)
theorem CX (j:Entry) (f:Int) (h:Window):Le (uM j f h) (ow j f h):=by
 unfold uM ow
 repeat' (with_reducible first|exact Le.refl _|exact Ad _ _ _ _|refine Le.loop (λ_=>?_)|refine Le.thenC (λ_=>?_) (λ_=>?_)|refine Le.cond ?_ ?_|refine Le.bind ?_ (λ_=>?_))
def uR (j:Entry) (f:Int) (h:Window):Option ((List Window)×Int) :=
 (nA ([j]:List Entry)).bind λr_6=>bif (B != 0)then some (([]:(List Window)),B)else (aS f (-1440) 1440).bind λr_9=>bif J then some (([]:(List Window)),1)else (lT h).bind λr_12=>bif (o != 0)then some (([]:(List Window)),o)else (uM j f h).bind λr_15=>(forL (List.range ((A.length:Int)).toNat) A (λk x s=>nY h k x s)).bind λo_27=>thenC I (λs_24=>some (F,0)) (λ_=>none)
theorem Dc (j:Entry) (f:Int) (h:Window):Le (uR j f h) (oZ j f h):=by
 unfold uR oZ
 repeat' (with_reducible first|exact Le.refl _|exact xX _|exact CX _ _ _|refine Le.forL (λ_ _ _=>?_)|refine Le.thenC (λ_=>?_) (λ_=>?_)|refine Le.cond ?_ ?_|refine Le.bind ?_ (λ_=>?_))
def qI (f:(List ByteArray)):Option (Int) :=
 bif (decide ((f.length:Int)>20))then some 2 else (o8 f).bind λr_3=>some h
theorem AX (f:(List ByteArray)):Le (qI f) (lV f):=by
 unfold qI lV
 repeat' (with_reducible first|exact Le.refl _|exact wG _|refine Le.cond ?_ ?_|refine Le.bind ?_ (λ_=>?_))
def lm (o:(List Campaign)) (j:Nat) (f:Campaign) (T:Unit):Option (Ctl (Unit) (Int)) :=
 ((jK f.Key).bind λr_16=>bif (!O)then some true else bif (sNe f.Class (⟨#[]⟩:ByteArray))then (jK f.Class).bind λr_20=>some (!L)else some false).bind λv_14=>bif F then some (.ret 5)else (bif (decide ((j:Int)>0))then (idx o (w64 ((j:Int)-1))).bind λy_26=>some (sLe f.Key M.Key)else some false).bind λv_23=>bif N then some (.ret 7)else ((rD f.Time).bind λr_31=>bif (!A)then some true else (aS f.Goal 0 1000000).bind λr_34=>bif R then some true else (aS f.Most 0 1000000).bind λr_37=>bif J then some true else (aS f.Cents 0 1000000000).bind λr_40=>some I).bind λv_29=>bif B then some (.ret 1)else (qI f.Tags).bind λr_43=>bif (h != 0)then some (.ret h)else some (.go ())
theorem uV (f:(List Campaign)) (h:Nat) (o:Campaign) (j:Unit):Le (lm f h o j) (gN f h o j):=by
 unfold lm gN
 repeat' (with_reducible first|exact Le.refl _|exact lK _|exact AX _|refine Le.cond ?_ ?_|refine Le.bind ?_ (λ_=>?_))
def mI (f:(List Campaign)):Option (Int) :=
 bif (decide ((f.length:Int)>30))then some 2 else (forL f () (λk x s=>lm f k x s)).bind λo_11=>thenC h (λs_8=>some 0) (λr=>some r)
theorem xu (f:(List Campaign)):Le (mI f) (jh f):=by
 unfold mI jh
 repeat' (with_reducible first|exact Le.refl _|exact uV _ _ _ _|refine Le.forL (λ_ _ _=>?_)|refine Le.thenC (λ_=>?_) (λ_=>?_)|refine Le.cond ?_ ?_|refine Le.bind ?_ (λ_=>?_))
def yX (h:Campaign) (f:Int):Option (Int×Int) :=
 (mI ([h]:List Campaign)).bind λr_4=>bif (j != 0)then some (0,j)else (cK f).bind λr_7=>bif (!A)then some (0,1)else (xE h f).bind λr_10=>some (o,0)
theorem Hq (h:Campaign) (f:Int):Le (yX h f) (uF h f):=by
 unfold yX uF
 repeat' (with_reducible first|exact Le.refl _|exact xu _|refine Le.cond ?_ ?_|refine Le.bind ?_ (λ_=>?_))
def oW (j:(List Beat)) (h:Nat) (f:Beat) (R:Unit):Option (Ctl (Unit) (Int)) :=
 (jK f.Player).bind λr_14=>bif (!B)then some (.ret 5)else ((cK f.At).bind λr_19=>bif (!A)then some true else (aS f.Clock 0 345686399999).bind λr_22=>some o).bind λv_17=>bif N then some (.ret 1)else (bif (decide ((h:Int)>0))then (idx j (w64 ((h:Int)-1))).bind λy_28=>(jL O f).bind λr_30=>some (decide (J>=0))else some false).bind λv_25=>bif F then some (.ret 7)else (bif (decide ((h:Int)>0))then (idx j (w64 ((h:Int)-1))).bind λy_36=>bif (sEq f.Player I.Player)then (idx j (w64 ((h:Int)-1))).bind λy_39=>some (decide (f.Clock<=M.Clock))else some false else some false).bind λv_33=>bif L then some (.ret 16)else some (.go ())
theorem zl (f:(List Beat)) (h:Nat) (o:Beat) (j:Unit):Le (oW f h o j) (jr f h o j):=by
 unfold oW jr
 repeat' (with_reducible first|exact Le.refl _|exact lK _|refine Le.cond ?_ ?_|refine Le.bind ?_ (λ_=>?_))
def sj (f:(List Beat)):Option (Int) :=
 bif (decide ((f.length:Int)>500))then some 2 else (forL f () (λk x s=>oW f k x s)).bind λo_11=>thenC h (λs_8=>some 0) (λr=>some r)
theorem BI (f:(List Beat)):Le (sj f) (gD f):=by
 unfold sj gD
 repeat' (with_reducible first|exact Le.refl _|exact zl _ _ _ _|refine Le.forL (λ_ _ _=>?_)|refine Le.thenC (λ_=>?_) (λ_=>?_)|refine Le.cond ?_ ?_|refine Le.bind ?_ (λ_=>?_))
def xL (h:(List Beat_)) (j:Int):Option (Int×Int) :=
 bif ((h.length:Int)==0)then some (0,8)else (x9 0 (λs=>iH h j s)).bind λo_12=>thenC M (λs_9=>bif (o==0)then (idx h 0).bind λy_21=>(idx h 0).bind λy_23=>(cK (w64 (F.f_to-(w64 (L.f_from-j))))).bind λr_25=>bif (!O)then some (0,11)else some ((w64 (F.f_to-(w64 (L.f_from-j)))),0)else bif (o==(h.length:Int))then (idx h (w64 (o-1))).bind λy_29=>(idx h (w64 (o-1))).bind λy_31=>(cK (w64 ((w64 (I.f_to+j))-J.f_from))).bind λr_33=>bif (!T)then some (0,11)else some ((w64 ((w64 (I.f_to+j))-J.f_from)),0)else (idx h (w64 (o-1))).bind λy_36=>(idx h o).bind λy_38=>(bif (decide ((w64 (A.f_from-f.f_from))>2592000000))then some true else some (decide ((w64 (A.f_to-f.f_to))>2592000000))).bind λv_42=>bif N then some (0,2)else (Ku .i64 (w64 ((w64 (j-f.f_from))*(w64 (A.f_to-f.f_to)))) (w64 (A.f_from-f.f_from))).bind λq_46=>(cK (w64 (f.f_to+B))).bind λr_48=>bif (!R)then some (0,11)else some ((w64 (f.f_to+B)),0)) (λ_=>none)
theorem FR (f:(List Beat_)) (h:Int):Le (xL f h) (jO f h):=by
 unfold xL jO
 repeat' (with_reducible first|exact Le.refl _|refine Le.loop (λ_=>?_)|refine Le.thenC (λ_=>?_) (λ_=>?_)|refine Le.cond ?_ ?_|refine Le.bind ?_ (λ_=>?_))
def y7 (j:(List Beat)) (f:ByteArray) (A:Int) (h:Bool):Option (Int×Int) :=
 (sj j).bind λr_5=>bif (B != 0)then some (0,B)else (jK f).bind λr_8=>bif (!J)then some (0,5)else (cK A).bind λr_11=>bif (!I)then some (0,1)else (lW j f h).bind λr_14=>(xL F A).bind λr_16=>some (o.1,o.2)
theorem Ik (j:(List Beat)) (f:ByteArray) (o:Int) (h:Bool):Le (y7 j f o h) (tT j f o h):=by
 unfold y7 tT
 repeat' (with_reducible first|exact Le.refl _|exact lK _|exact BI _|exact FR _ _|refine Le.cond ?_ ?_|refine Le.bind ?_ (λ_=>?_))
def yZ (o:(List Beat)) (f:ByteArray) (h:Int):Option (Int×Int) :=
 (y7 o f h false).bind λr_4=>some (j.1,j.2)
theorem IK (j:(List Beat)) (f:ByteArray) (h:Int):Le (yZ j f h) (uD j f h):=by
 unfold yZ uD
 repeat' (with_reducible first|exact Le.refl _|exact Ik _ _ _ _|refine Le.bind ?_ (λ_=>?_))
def pY (h:Alert) (j:Nat) (f:ByteArray) (F:Unit):Option (Ctl (Unit) (Int)) :=
 (jK f).bind λr_14=>bif (!A)then some (.ret 5)else (bif (decide ((j:Int)>0))then (idx h.Refs (w64 ((j:Int)-1))).bind λy_20=>some (sLe f o)else some false).bind λv_17=>bif B then some (.ret 7)else bif (sEq f h.Id)then some (.ret 14)else some (.go ())
theorem zQ (f:Alert) (j:Nat) (o:ByteArray) (h:Unit):Le (pY f j o h) (kX f j o h):=by
 unfold pY kX
 repeat' (with_reducible first|exact Le.refl _|exact lK _|refine Le.cond ?_ ?_|refine Le.bind ?_ (λ_=>?_))
def sW (f:Alert):Option (Int) :=
 bif (decide ((f.Refs.length:Int)>20))then some 2 else (forL f.Refs () (λk x s=>pY f k x s)).bind λo_12=>thenC h (λs_9=>bif (!((f.Kind==1)==((f.Refs.length:Int)==0)))then some 3 else some 0) (λr=>some r)
theorem Ci (f:Alert):Le (sW f) (nO f):=by
 unfold sW nO
 repeat' (with_reducible first|exact Le.refl _|exact zQ _ _ _ _|refine Le.forL (λ_ _ _=>?_)|refine Le.thenC (λ_=>?_) (λ_=>?_)|refine Le.cond ?_ ?_|refine Le.bind ?_ (λ_=>?_))
def yQ (f:ByteArray):Option (Bool) :=
 (x9 0 (λs=>rQ f s)).bind λo_10=>thenC B (λs_7=>((lX f).bind λr_23=>bif h then (pE f (⟨#[32]⟩:ByteArray)).bind λr_26=>bif (sEq o f)then (strings_Contains f (⟨#[32,32]⟩:ByteArray)).bind λr_29=>some (!j)else some false else some false).bind λv_21=>some A) (λr=>some r)
theorem IA (f:ByteArray):Le (yQ f) (uu f):=by
 unfold yQ uu
 repeat' (with_reducible first|exact Le.refl _|refine Le.loop (λ_=>?_)|refine Le.thenC (λ_=>?_) (λ_=>?_)|refine Le.cond ?_ ?_|refine Le.bind ?_ (λ_=>?_))
def rM (f:Alert):Option (Int) :=
 ((jK f.Id).bind λr_5=>bif (!M)then some true else (jK f.Sender).bind λr_8=>some (!N)).bind λv_3=>bif O then some 5 else (aS f.Kind 1 3).bind λr_11=>bif A then some 4 else (sW f).bind λr_14=>bif (h != 0)then some h else ((cK f.At).bind λr_19=>bif (!o)then some true else (aS f.Until (w64 (f.At+1)) (w64 (f.At+2592000000))).bind λr_22=>bif j then some true else (aS f.Weight 1 9).bind λr_25=>some I).bind λv_17=>bif J then some 1 else bif (decide ((f.Areas.length:Int)>20))then some 2 else (forL f.Areas () (λk x s=>l9 k x s)).bind λo_37=>thenC L (λs_34=>bif (!((f.Kind==3)==((f.Areas.length:Int)==0)))then some 3 else bif (decide ((f.Text.size:Int)>500))then some 2 else ((yQ f.Text).bind λr_47=>bif (!F)then some true else bif (sEq f.Text (⟨#[]⟩:ByteArray))then some (!(f.Kind==3))else some false).bind λv_45=>bif B then some 3 else some 0) (λr=>some r)
theorem BN (f:Alert):Le (rM f) (mq f):=by
 unfold rM mq
 repeat' (with_reducible first|exact Le.refl _|exact lK _|exact Ci _|exact IA _|refine Le.forL (λ_ _ _=>?_)|refine Le.thenC (λ_=>?_) (λ_=>?_)|refine Le.cond ?_ ?_|refine Le.bind ?_ (λ_=>?_))
def nU (o:(List Alert)) (h:Nat) (j:Alert) (I:Unit):Option (Ctl (Unit) (Int)) :=
 (rM j).bind λr_14=>bif (f != 0)then some (.ret f)else (bif (decide ((h:Int)>0))then (idx o (w64 ((h:Int)-1))).bind λy_20=>(tH A j).bind λr_22=>some (decide (B>=0))else some false).bind λv_17=>bif F then some (.ret 7)else some (.go ())
theorem yf (f:(List Alert)) (h:Nat) (o:Alert) (j:Unit):Le (nU f h o j) (jU f h o j):=by
 unfold nU jU
 repeat' (with_reducible first|exact Le.refl _|exact BN _|refine Le.cond ?_ ?_|refine Le.bind ?_ (λ_=>?_))
def qJ (f:(List Alert)):Option (Int) :=
 bif (decide ((f.length:Int)>300))then some 2 else (forL f () (λk x s=>nU f k x s)).bind λo_11=>thenC h (λs_8=>(forL f ([]:List (ByteArray×Bool)) (λk x s=>lN k x s)).bind λo_34=>thenC j (λs_31=>some 0) (λr=>some r)) (λr=>some r)
theorem AA (f:(List Alert)):Le (qJ f) (lQ f):=by
 unfold qJ lQ
 repeat' (with_reducible first|exact Le.refl _|exact yf _ _ _ _|refine Le.forL (λ_ _ _=>?_)|refine Le.thenC (λ_=>?_) (λ_=>?_)|refine Le.cond ?_ ?_|refine Le.bind ?_ (λ_=>?_))
def oD (j:(List Post)) (h:Nat) (f:Post) (L:Unit):Option (Ctl (Unit) (Int)) :=
 (jK f.Player).bind λr_14=>bif (!B)then some (.ret 5)else ((aS f.X (-100000) 100000).bind λr_19=>bif A then some true else (aS f.Y (-100000) 100000).bind λr_22=>some o).bind λv_17=>bif I then some (.ret 1)else (bif (decide ((h:Int)>0))then (idx j (w64 ((h:Int)-1))).bind λy_28=>some (sLe f.Player J.Player)else some false).bind λv_25=>bif F then some (.ret 7)else some (.go ())
theorem zh (f:(List Post)) (h:Nat) (o:Post) (j:Unit):Le (oD f h o j) (kz f h o j):=by
 unfold oD kz
 repeat' (with_reducible first|exact Le.refl _|exact lK _|refine Le.cond ?_ ?_|refine Le.bind ?_ (λ_=>?_))
def rX (f:(List Post)):Option (Int) :=
 bif (decide ((f.length:Int)>500))then some 2 else (forL f () (λk x s=>oD f k x s)).bind λo_11=>thenC h (λs_8=>some 0) (λr=>some r)
theorem BM (f:(List Post)):Le (rX f) (mU f):=by
 unfold rX mU
 repeat' (with_reducible first|exact Le.refl _|exact zh _ _ _ _|refine Le.forL (λ_ _ _=>?_)|refine Le.thenC (λ_=>?_) (λ_=>?_)|refine Le.cond ?_ ?_|refine Le.bind ?_ (λ_=>?_))
def tq (h:(List Alert)) (f:(List Post)):Option (Int) :=
 (qJ h).bind λr_3=>bif (j != 0)then some j else (rX f).bind λr_6=>some o
theorem CU (h:(List Alert)) (f:(List Post)):Le (tq h f) (nM h f):=by
 unfold tq nM
 repeat' (with_reducible first|exact Le.refl _|exact AA _|exact BM _|refine Le.cond ?_ ?_|refine Le.bind ?_ (λ_=>?_))
def xh (h:Alert) (f:Post):Option (Bool×Int) :=
 (tq ([h]:List Alert) ([f]:List Post)).bind λr_5=>bif (j != 0)then some (false,j)else (tL h f).bind λr_8=>some (o,0)
theorem EI (h:Alert) (f:Post):Le (xh h f) (qh h f):=by
 unfold xh qh
 repeat' (with_reducible first|exact Le.refl _|exact CU _ _|refine Le.cond ?_ ?_|refine Le.bind ?_ (λ_=>?_))
def Ai  : Option (Bool) :=
 (zg ([(⟨0,0,2,2⟩:Rect),(⟨1,1,2,2⟩:Rect)]:List Rect)).bind λr_1=>(uR (⟨(⟨#[97]⟩:ByteArray),(⟨#[98]⟩:ByteArray),0,0,0,1,127,([]:List Int),1,2,0,([]:List ByteArray),false⟩:Entry) 0 (⟨0,86400000⟩:Window)).bind λr_3=>(yX (⟨(⟨#[97]⟩:ByteArray),(⟨#[]⟩:ByteArray),(⟨0,100⟩:Window),([]:List ByteArray),10,0,0⟩:Campaign) 50).bind λr_5=>(yZ ([(⟨(⟨#[112]⟩:ByteArray),0,100⟩:Beat),(⟨(⟨#[112]⟩:ByteArray),1000,1300⟩:Beat)]:List Beat) (⟨#[112]⟩:ByteArray) 700).bind λr_7=>(xh (⟨(⟨#[97]⟩:ByteArray),(⟨#[115]⟩:ByteArray),1,([]:List ByteArray),0,5,1,([(⟨0,0,2,2⟩:Rect)]:List Rect),(⟨#[120]⟩:ByteArray)⟩:Alert) (⟨(⟨#[112]⟩:ByteArray),1,1⟩:Post)).bind λr_10=>((Bf ([j.2,A.2,o.2,h.2,f.2]:List Int)).bind λr_14=>bif (B==0)then bif (j.1==7)then bif ((A.1.length:Int)==1)then bif (o.1==5)then bif (h.1==500)then some f.1 else some false else some false else some false else some false else some false).bind λv_12=>some F
theorem Jg  : Le (Ai) (sJ):=by
 unfold Ai sJ
 repeat' (with_reducible first|exact Le.refl _|exact IP _|exact Dc _ _ _|exact Hq _ _|exact IK _ _ _|exact EI _ _|refine Le.cond ?_ ?_|refine Le.bind ?_ (λ_=>?_))
theorem ready_F:Ai=some true:=by kernel_rfl
theorem Tw:sJ=some true:=Jg _ ready_F
theorem KW {α:Type} {z:α} {body:Nat->Nat->List α->Option (Ctl (List α) Unit)} (hb:∀k x s,body k x s=(inR (k:Int) s).bind λ_=>(s[(0+((k:Int)).toNat)]?).bind λ_=>some (.go (s.set (0+((k:Int)).toNat) z))) (l:List α) (hl:l.length<=100000):∃r,forL (List.range ((l.length:Int)).toNat) l (λk x s=>body k x s)=some (.go r)/\r.length=l.length:=by
 obtain ⟨r,j,h⟩:=qA (body:=λk x s=>body k x s) (λ_ s=>s.length=l.length) (xs:=List.range ((l.length:Int)).toNat) (s:=l) (by simp;omega) (λk x s f hs=>by
  have A:=(List.getElem?_eq_some_iff.1 f).1
  rw [List.length_range]at A
  have o:s[0+((k:Int)).toNat]? = some (s[0+((k:Int)).toNat]'(by omega)):=List.getElem?_eq_getElem (by omega)
  rw [hb,zq (by omega) (by omega),ob_,o,ob_]
  exact⟨_,rfl,by rw [List.length_set];exact hs⟩) rfl
 exact⟨r,j,h⟩
theorem Gn {α:Type} {a b:List α} (h:a.length=b.length):fw a b=some ():=by unfold fw;rw [if_pos h]
theorem spoilL (l:List Log_) (hl:l.length<=100000):∃r,jC l=some r/\fw r l=some ():=by
 obtain ⟨r,h,f⟩:=KW (body:=λk x s=>jN k x s) (λk x s=>rfl) l hl
 exact⟨r,by unfold jC;rw [h];rfl,Gn f⟩
theorem spoilP (l:List Play) (hl:l.length<=100000):∃r,ji l=some r/\fw r l=some ():=by
 obtain ⟨r,h,f⟩:=KW (body:=λk x s=>jA k x s) (λk x s=>rfl) l hl
 exact⟨r,by unfold ji;rw [h];rfl,Gn f⟩
theorem spoilT (l:List Tally) (hl:l.length<=100000):∃r,iT l=some r/\fw r l=some ():=by
 obtain ⟨r,h,f⟩:=KW (body:=λk x s=>jl k x s) (λk x s=>rfl) l hl
 exact⟨r,by unfold iT;rw [h];rfl,Gn f⟩
theorem spoilM (l:List Match) (hl:l.length<=100000):∃r,iU l=some r/\fw r l=some ():=by
 obtain ⟨r,h,f⟩:=KW (body:=λk x s=>jg k x s) (λk x s=>rfl) l hl
 exact⟨r,by unfold iU;rw [h];rfl,Gn f⟩
theorem eqLog (l:List Log_) (hl:l.length<=1000000):fe l l=some true:=by
 unfold fe
 have j:((l.length:Int) != (l.length:Int))=false:=by simp
 obtain ⟨s,h,_⟩:=qA (body:=λk x s=>dQ l k x s) (ρ:=Bool) (λ_ _=>True) (xs:=l) (s:=()) (by omega) (λk x s f _=>by
  refine⟨(),?_,trivial⟩
  unfold dQ
  rw [mf,f,ob_]
  simp) trivial
 rw [j,cond_false,h];rfl
theorem eqBeat (l:List Beat) (hl:l.length<=1000000):dX l l=some true:=by
 unfold dX
 have j:((l.length:Int) != (l.length:Int))=false:=by simp
 obtain ⟨s,h,_⟩:=qA (body:=λk x s=>dF l k x s) (ρ:=Bool) (λ_ _=>True) (xs:=l) (s:=()) (by omega) (λk x s f _=>by
  refine⟨(),?_,trivial⟩
  unfold dF
  rw [mf,f,ob_]
  simp) trivial
 rw [j,cond_false,h];rfl
theorem eqPlay (l:List Play) (hl:l.length<=1000000):dZ l l=some true:=by
 unfold dZ
 have j:((l.length:Int) != (l.length:Int))=false:=by simp
 obtain ⟨s,h,_⟩:=qA (body:=λk x s=>dG l k x s) (ρ:=Bool) (λ_ _=>True) (xs:=l) (s:=()) (by omega) (λk x s f _=>by
  refine⟨(),?_,trivial⟩
  unfold dG
  rw [mf,f,ob_]
  simp) trivial
 rw [j,cond_false,h];rfl
theorem eqStr (l:List ByteArray) (hl:l.length<=100000000):fV l l=some true:=by
 unfold fV
 have o:((l.length:Int) != (l.length:Int))=false:=by simp
 obtain ⟨s,j,_⟩:=qA (body:=λk x s=>eP l k x s) (ρ:=Bool) (λ_ _=>True) (xs:=l) (s:=()) (by omega) (λk x s h _=>by
  refine⟨(),?_,trivial⟩
  have f:sNe x x=false:=by
   show (!sEq x x)=false
   rw [(Lv _ _).2 rfl];rfl
  unfold eP
  rw [mf,h,ob_,f];rfl) trivial
 rw [o,cond_false,j];rfl
theorem P9 {l:List Play} (h:RPlays l):VP l:=by
 refine⟨λx f => ?_,λx f=>by have:=(h.right x f).at_;omega,λx f=>by have:=(h.right x f).lo;omega,h.rise⟩
 obtain ⟨h1,h2,j,o⟩:=h.right x f
 refine⟨?_,?_,by omega,by omega⟩
 ·rcases h1 with e|e <;> rw [e] <;> exact oF rfl
 ·rcases h2 with e|e <;> rw [e] <;> exact oF rfl
theorem rp_zero {l:List Play} (h:RPlays l):Om l=0:=by
 have h1:=Ce (P9 h).good (by have:=h.len;omega)
 rw [D6 h,so_]at h1
 exact h1.symm
theorem proofsStay (l:List Int):qG l=some true:=by
 obtain ⟨x,x1,x2,x3,x4,W⟩:=FL ⟨l,0⟩ 5 (by decide) (b:=0) ⟨Int.le_refl _,Int.le_refl _⟩ (by decide)
 obtain ⟨B,s2,b1,b2,b3,b4,b5⟩:=Ev x.2 x2 (by omega)
 obtain ⟨z,s3,z1,z2,z3,z4⟩:=Ob 5 (by decide) s2 b2 (by omega)
 have o:x.1.length<=10:=x3
 have hzl:z.length<=10:=z3
 have l0:=QT x4 W (by omega)
 have q0:=Oz b4 b5 (by omega)
 have I:∀y∈x.1,wI y:=λy j=>E9 (x4 y j)
 have R:=Qc x.1 I (by omega)
 have hb:=beatsK B (λy j=>M6 (b4 y j)) (by omega)
 rw [l0]at R
 rw [q0]at hb
 have h0:dW []=some 0:=by
  have:=Qc [] (λy j=>by cases j) (by simp)
  rw [this];rfl
 obtain ⟨t1,t2⟩:=logsF_0 l0
 obtain ⟨_,u2⟩:=TR q0
 obtain ⟨F,f1,f2⟩:=Od (B:=B) ⟨u2,by omega⟩ (L:=x.1) ⟨t1,t2,by omega⟩ R hb
 generalize (fnd B x.1 x.1).1=pl at f1 f2
 have f:=P9 z2
 have M:=rp_zero z2
 have A:=D6 z2
 obtain ⟨r,r1,r2⟩:=OP f (by omega) (zone:=0) (by decide) M
 have J:=IZ (zone:=0) (by decide) z f.at_ f.lo
 have hrl:r.length<=10:=by have:=r2.length_eq;have:=J.len;omega
 obtain ⟨T,left,c1,c2⟩:=QZ f f A A (by omega) (by omega) (most:=5) (by decide)
 obtain ⟨p,e,p1,p2,p3⟩:=pathOk x.1 I (by omega) l0
 obtain ⟨Z,O,N⟩:=rootOk x.1 I (by omega) l0
 obtain ⟨w1,k1,k2⟩:=spoilL x.1 (by omega)
 obtain ⟨w2,k3,k4⟩:=spoilP pl (by omega)
 obtain ⟨w3,k5,k6⟩:=spoilT r (by omega)
 obtain ⟨w4,k7,k8⟩:=spoilM T (by omega)
 unfold qG
 simp only [x1,b1,z1,ob_,QM W (by omega) R h0,k1,k2,f1,k3,k4,r1,k5,k6,c1,k7,k8,p3,cloneSE p (by omega),N,beq_self_eq_true,cond_true]
 have hv:(bif decide ((x.1.length:Int)>0)then (idx x.1 0).bind λy_62=>(pQ Z (x.1.length:Int) 0 Y p).bind λr_64=>some ()else some ())=some ():=by
  cases hx:x.1 with
  | nil=>rfl
  | cons y ys =>
   have h:=o
   rw [hx]at h
   obtain ⟨v,v1⟩:=TH Z (((y::ys).length:Nat):Int) 0 y p O (by omega) (I y (by rw [hx];simp)) p1 (by omega)
   rw [decide_eq_true (by simp only [List.length_cons];omega),cond_true,show idx (y::ys) 0=some y from rfl,ob_,v1];rfl
 rw [hv]
 simp only [ob_,eqLog x.1 (by omega),eqBeat B (by omega),eqPlay z (by omega),eqStr p (by omega),Tw,cond_true]
end Go.Proofs.YtnfojnnfidnikaeGreatDoor.Law

