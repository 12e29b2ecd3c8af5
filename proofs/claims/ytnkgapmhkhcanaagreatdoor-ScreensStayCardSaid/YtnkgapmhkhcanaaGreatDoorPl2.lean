/-
  THE PLAIN LAW (part 2).
-/
import Derived.Test.YtnkgapmhkhcanaaGreatDoorPl1
import Derived.Test.YtnkgapmhkhcanaaGreatDoorDefs
open Go Go.Eng
namespace Go.Proofs.YtnkgapmhkhcanaaGreatDoor.Law
set_option linter.unusedVariables false
set_option linter.unusedSimpArgs false
def qw (n lo hi:Int):Bool:=decide (n<lo)||decide (n>hi)
theorem zb (n lo hi:Int):aQ n lo hi=some (qw n lo hi):=by
 unfold aQ qw
 cases decide (n<lo) <;> cases decide (n>hi) <;> rfl
theorem in_eq (n lo hi:Int):rY n lo hi=some (!qw n lo hi):=by
 unfold rY qw
 have e1:decide (lo<=n) = !decide (n<lo):=by rw [Bool.eq_iff_iff];simp
 have e2:decide (n<=hi) = !decide (n>hi):=by rw [Bool.eq_iff_iff];simp
 rw [e1,e2]
 cases decide (n<lo) <;> cases decide (n>hi) <;> rfl
theorem IG {n lo hi:Int} (h:qw n lo hi=false):lo<=n/\n<=hi:=by
 simp only [qw,Bool.or_eq_false_iff,decide_eq_false_iff_not]at h;omega
theorem mW {n lo hi:Int} (h:lo<=n/\n<=hi):qw n lo hi=false:=by
 simp only [qw,Bool.or_eq_false_iff,decide_eq_false_iff_not];omega
def uB (r:Rect):Bool:=qw r.X (-100000) 100000||qw r.Y (-100000) 100000||qw r.W 1 (w64 (100000-r.X))||qw r.H 1 (w64 (100000-r.Y))
theorem wD (r:Rect):fV r=some (bif uB r then 1 else 0):=by
 unfold fV uB
 simp only [zb,ob_]
 cases qw r.X (-100000) 100000 <;> cases qw r.Y (-100000) 100000 <;> cases qw r.W 1 (w64 (100000-r.X)) <;> cases qw r.H 1 (w64 (100000-r.Y)) <;> rfl
theorem IQ (r:Rect):nH r=some (bif uB r then 1 else 0):=by
 unfold nH uB
 simp only [in_eq,ob_,Bool.not_not]
 cases qw r.X (-100000) 100000 <;> cases qw r.Y (-100000) 100000 <;> cases qw r.W 1 (w64 (100000-r.X)) <;> cases qw r.H 1 (w64 (100000-r.Y)) <;> rfl
theorem GN {r:Rect} (h:uB r=false):gM r:=by
 unfold uB at h
 simp only [Bool.or_eq_false_iff]at h
 obtain ⟨⟨⟨h1,h2⟩,h3⟩,h4⟩:=h
 have h1:=IG h1
 have h2:=IG h2
 rw [bK (by omega)]at h3 h4
 have h3:=IG h3
 have h4:=IG h4
 exact⟨by omega,by omega,by omega,by omega,by omega⟩
theorem Ng (l m:List Rect) (h:l.length+m.length<=1000000):dw [l,m]=some (l++m):=by
 have g1:forL [l,m] (0:Int) (λk x s=>dF k x s)=some (.go ((l.length+m.length:Nat):Int)):=by
  rw [dz (by simp)]
  simp only [forR,dF]
  have e1:w64 (0+(l.length:Int))=(l.length:Int):=by rw [bK (by omega)];omega
  have e2:w64 ((l.length:Int)+(m.length:Int))=((l.length+m.length:Nat):Int):=by rw [bK (by omega)];omega
  have d1:decide ((l.length:Int)<0)=false:=by simp
  have d2:decide (((l.length+m.length:Nat):Int)<0)=false:=by simp;omega
  simp only [e1,e2,d1,d2,cond_false,ob_]
 have g2:∃b,dN ((l.length+m.length:Nat):Int)=some b:=by
  unfold dN
  have d1:decide (((l.length+m.length:Nat):Int)<0)=false:=by simp;omega
  have e1:w64 (((l.length+m.length:Nat):Int)-w64 (0-0))=((l.length+m.length:Nat):Int):=by
   rw [show w64 (0-0)=0 from rfl,bK (by omega)];omega
  rw [d1,cond_false,e1]
  by_cases hp:((l.length+m.length:Nat):Int)>0
  ·rw [decide_eq_true hp,cond_true]
   unfold zN
   rw [if_pos ⟨hp,by omega,by omega⟩]
   exact⟨true,rfl⟩
  ·rw [decide_eq_false hp,cond_false];exact⟨false,rfl⟩
 obtain ⟨b,g2⟩:=g2
 have g3:forL [l,m] ([]:List Rect) (λk x s=>dH k x s)=some (.go (l++m)):=by
  rw [dz (by simp)]
  simp only [forR,dH]
  rw [jO _ _ (by simp;omega)]
  simp only [ob_,List.nil_append]
  rw [jO _ _ (by omega)];rfl
 unfold dw
 rw [g1,ob_]
 simp only [thenC]
 rw [g2,ob_,g3];rfl
def oO (x y:Int) (r:Rect):Bool:=(decide (r.X<=x)&&decide (x<r.X+r.W))&&(decide (r.Y<=y)&&decide (y<r.Y+r.H))
def hasB (l:List Rect) (x y:Int):Bool:=l.any (oO x y)
theorem EY (l:List Rect) (x y:Int):hasB l x y=true↔iA l x y:=by
 unfold hasB iA
 rw [List.any_eq_true]
 simp only [oO,Bool.and_eq_true,decide_eq_true_eq]
theorem Dv {body:Nat->Rect->List Int->Option (Ctl (List Int) Unit)} (f:Rect->List Int) (hf:∀r,(f r).length=2):∀(l:List Rect) (k:Nat) (s:List Int),(∀k r s,r∈l->s.length<=1000000->body k r s=some (.go (s++f r)))->s.length+2*l.length<=1000000->forR body l k s=some (.go (s++l.flatMap f))
 | [],k,s,_,_=>by simp [forR]
 | r::l,k,s,h,hl=>by
  simp only [List.length_cons]at hl
  have:=hf r
  rw [forR,h k r s (by simp) (by omega),ob_]
  simp only
  rw [Dv f hf l (k+1) _ (λk r s hr=>h k r s (by simp [hr])) (by simp;omega)]
  simp
def yE (r:Rect):List Int:=[r.Y,r.Y+r.H]
theorem Mi {f:Rect->List Int} (hf:∀r,(f r).length=2):∀l:List Rect,(l.flatMap f).length=2*l.length
 | []=>rfl
 | r::l=>by rw [List.flatMap_cons,List.length_append,hf,Mi hf l,List.length_cons];omega
theorem cutsOf (e:List Int) (he:e.length<=1000000):∃c,((dK e).bind λr_22=>(gQ r_22 e).bind λ_=>(bX r_22).bind λr_25=>some r_25)=some c/\c.Pairwise (· < ·)/\(∀x,x∈c↔x∈e)/\c.length<=e.length:=by
 obtain ⟨s,c,h1,h2,h3,h4,h5,h6⟩:=sortC e (by omega)
 have hsm:gQ s e=some ():=by unfold gQ;rw [if_pos h2]
 exact⟨c,by rw [h1,ob_,hsm,ob_,h3,ob_],h4,h5,h6⟩
theorem Ch:∀(l:List (Int×List Run)) (fr fr':Int),gz l [] fr=gz l [] fr'
 | [],_,_=>rfl
 | (y,R)::l,fr,fr'=>by
  simp only [gz,if_true]
  by_cases h : []=R
  ·rw [if_pos h,if_pos h];exact Ch l fr fr'
  ·rw [if_neg h,if_neg h]
theorem JN (Rw:Int->List Run):∀(ys:List Int),(∀(j:Nat) (a b:Int),ys[j]? = some a->ys[j+1]? = some b->∀y,a<=y->y<b->Rw y=Rw a)->(∀y,(∀a∈ys,a<=y)->Rw y=[])->ys.Pairwise (· < ·)->∀(y:Int) (band:List Run),yN (kY Rw ys) band y=match ys with | []=>Rw y | a::_=>bif decide (y<a)then band else Rw y
 | [],_,h2,_,y,band=>(h2 y (λa ha=>by cases ha)).symm
 | [a],_,h2,_,y,band=>by
  simp only [kY,yN]
  by_cases h:y<a
  ·rw [decide_eq_true h];rfl
  ·rw [decide_eq_false h,cond_false,cond_false,h2 y (λb hb=>by rw [List.mem_singleton]at hb;omega)]
 | a::b::l,h1,h2,h3,y,band=>by
  obtain ⟨p1,p2⟩:=List.pairwise_cons.1 h3
  have hab:=p1 b (by simp)
  have ih:=JN Rw (b::l) (λj c d hc hd=>h1 (j+1) c d (by simpa using hc) (by simpa using hd)) (λy hy=>h2 y (λc hc=>by
   rcases List.mem_cons.1 hc with rfl|hc
   ·have:=hy b (by simp);omega
   ·exact hy c hc)) p2 y (Rw a)
  have hp:kY Rw (a::b::l)=(a,Rw a)::kY Rw (b::l):=rfl
  rw [hp,yN,ih]
  show (bif decide (y<a)then band else bif decide (y<b)then Rw a else Rw y)=bif decide (y<a)then band else Rw y
  by_cases h:y<a
  ·rw [decide_eq_true h];rfl
  ·rw [decide_eq_false h,cond_false,cond_false]
   by_cases k:y<b
   ·rw [decide_eq_true k,cond_true,h1 0 a b rfl rfl y (by omega) k]
   ·rw [decide_eq_false k,cond_false]
theorem Eo (Rw:Int->List Run):∀(ys:List Int) (lo:Int),(∀y∈ys,lo<y)->ys.Pairwise (· < ·)->NG lo (kY Rw ys)
 | [],_,_,_=>trivial
 | [a],lo,h,_=>⟨h a (by simp),λ_=>rfl,trivial⟩
 | a::b::l,lo,h,h3=>by
  obtain ⟨p1,p2⟩:=List.pairwise_cons.1 h3
  refine⟨h a (by simp),λe => ?_,Eo Rw (b::l) a p1 p2⟩
  cases l <;> cases e
def Fits (Rw:Int->List Run) (ys:List Int):Prop :=
 ys.Pairwise (· < ·)/\(∀y∈ys,-200000<y)/\(∀(j:Nat) (a b:Int),ys[j]? = some a->ys[j+1]? = some b->∀y,a<=y->y<b->Rw y=Rw a)/\(∀y,(∀a∈ys,a<=y)->Rw y=[])/\(∀y,(∀a∈ys,y<a)->Rw y=[])
theorem KZ {Rw:Int->List Run} {ys:List Int} (h:Fits Rw ys) (fr:Int):lX (-200000) (gz (kY Rw ys) [] fr)/\∀y,rowAt (gz (kY Rw ys) [] fr) y=Rw y:=by
 obtain ⟨h1,h2,h3,h4,h5⟩:=h
 rw [Ch _ fr (-200000)]
 obtain ⟨c1,c2⟩:=Eh (band:=[]) (Eo Rw ys (-200000) h2 h1) (Int.le_refl _) (λ_=>rfl)
 refine⟨c1,λy => ?_⟩
 rw [c2,JN Rw ys h3 h4 h1]
 by_cases k:y < -200000
 ·rw [decide_eq_true k,cond_true,h5 y (λa ha=>by have:=h2 a ha;omega)]
 ·rw [decide_eq_false k,cond_false]
  cases ys with
  | nil=>rfl
  | cons a l =>
   simp only
   by_cases k:y<a
   ·rw [decide_eq_true k,cond_true]
    exact (h5 y (λb hb=>by
     rcases List.mem_cons.1 hb with rfl|hb
     ·exact k
     ·have:=(List.pairwise_cons.1 h1).1 b hb;omega)).symm
   ·rw [decide_eq_false k,cond_false]
theorem J2 {es:List Int} (hp:es.Pairwise (· < ·)) {i:Nat} {a b e:Int} (ha:es[i]? = some a) (hb:es[i+1]? = some b) (he:e∈es):e<=a\/b<=e:=by
 obtain ⟨q,hq,rfl⟩:=List.getElem_of_mem he
 obtain ⟨la,ea⟩:=List.getElem?_eq_some_iff.1 ha
 obtain ⟨lb,eb⟩:=List.getElem?_eq_some_iff.1 hb
 rcases Nat.lt_trichotomy q i with k|k|k
 ·left;rw [<- ea];exact Int.le_of_lt ((List.pairwise_iff_getElem.1 hp) q i hq la k)
 ·left;subst k;rw [<- ea];exact Int.le_refl _
 ·right
  rcases Nat.eq_or_lt_of_le (show i+1<=q by omega)with e|k2
  ·subst e;rw [<- eb];exact Int.le_refl _
  ·rw [<- eb];exact Int.le_of_lt ((List.pairwise_iff_getElem.1 hp) (i+1) q lb hq k2)
theorem Pw {ys:List Int} (hp:ys.Pairwise (· < ·)) {L:List Rect} (hL:∀r∈L,r.Y∈ys/\r.Y+r.H∈ys) {j:Nat} {a b:Int} (ha:ys[j]? = some a) (hb:ys[j+1]? = some b) {y:Int} (h1:a<=y) (h2:y<b) (x:Int):iA L x y↔iA L x a:=by
 constructor
 ·rintro ⟨r,hr,k3,k1,k2⟩
  obtain ⟨i1,i2⟩:=hL r hr
  refine⟨r,hr,k3,?_,by omega⟩
  rcases J2 hp ha hb i1 with g|g <;> omega
 ·rintro ⟨r,hr,k3,k1,k2⟩
  obtain ⟨i1,i2⟩:=hL r hr
  refine⟨r,hr,k3,by omega,?_⟩
  rcases J2 hp ha hb i2 with g|g <;> omega
theorem MZ {lo:Int} {R:List Run} (h:bg lo R) (he:∀x,¬mem x R):R=[] :=
 EE h (show bg lo [] from trivial) (λx=>by simp [iJ,he x])
def qX (f:Int->Int) (lo:Int):Nat->Int
 | 0=>0
 | n+1=>qX f lo n+f (lo+n)
theorem nX {f g:Int->Int} {lo:Int}:∀{n:Nat},(∀x,f x=g x)->qX f lo n=qX g lo n
 | 0,_=>rfl
 | n+1,h=>by rw [qX,qX,nX (n:=n) h,h]
theorem EK (f g:Int->Int) (lo:Int):∀n:Nat,qX (λx=>f x+g x) lo n=qX f lo n+qX g lo n
 | 0=>rfl
 | n+1=>by rw [qX,qX,qX,EK f g lo n];omega
theorem Bc (lo:Int):∀n:Nat,qX (λ_=>0) lo n=0
 | 0=>rfl
 | n+1=>by rw [qX,Bc lo n];rfl
theorem EB (c:Int) (f:Int->Int) (lo:Int):∀n:Nat,qX (λx=>c*f x) lo n=c*qX f lo n
 | 0=>by simp [qX]
 | n+1=>by rw [qX,qX,EB c f lo n,Int.mul_add]
def b01 (b:Bool):Int:=bif b then 1 else 0
theorem Mv (a b:Bool):b01 (a&&b)=b01 b*b01 a:=by cases a <;> cases b <;> rfl
theorem Ev {lo a b:Int} (h1:lo<=a) (h2:a<=b):∀n:Nat,qX (λx=>b01 (decide (a<=x)&&decide (x<b))) lo n=min b (lo+n)-min a (lo+n)
 | 0=>by simp only [qX];omega
 | n+1=>by
  rw [qX,Ev h1 h2 n]
  by_cases k1:a<=lo+(n:Int)
  ·by_cases k2:lo+(n:Int)<b
   ·rw [decide_eq_true k1,decide_eq_true k2];show _+1=_;omega
   ·rw [decide_eq_true k1,decide_eq_false k2];show _+0=_;omega
  ·rw [decide_eq_false k1];show _+0=_;omega
def SS (lo:Int) (n:Nat) (f:Int->Int->Int):Int:=qX (λy=>qX (λx=>f x y) lo n) lo n
theorem Oy {lo:Int} {n:Nat} {f g:Int->Int->Int} (h:∀x y,f x y=g x y):SS lo n f=SS lo n g:=nX (λy=>nX (λx=>h x y))
theorem SS_add (lo:Int) (n:Nat) (f g:Int->Int->Int):SS lo n (λx y=>f x y+g x y)=SS lo n f+SS lo n g:=by
 unfold SS
 rw [<- EK]
 exact nX (λy=>EK _ _ _ _)
theorem SS_zero (lo:Int) (n:Nat):SS lo n (λ_ _=>0)=0:=by
 unfold SS
 rw [nX (g:=λ_=>0) (λy=>Bc lo n),Bc]
def lL {α:Type} (f:α->Int):List α->Int
 | []=>0
 | x::l=>f x+lL f l
theorem Em {α:Type} (f:α->Int):∀l m:List α,lL f (l++m)=lL f l+lL f m
 | [],m=>by simp [lL]
 | x::l,m=>by rw [List.cons_append,lL,lL,Em f l m];omega
theorem zo {α:Type} {f g:α->Int}:∀{l:List α},(∀x∈l,f x=g x)->lL f l=lL g l
 | [],_=>rfl
 | x::l,h=>by rw [lL,lL,h x (by simp),zo (l:=l) (λy hy=>h y (by simp [hy]))]
theorem Jd {α β:Type} (f:β->Int) (g:α->β):∀l:List α,lL f (l.map g)=lL (λx=>f (g x)) l
 | []=>rfl
 | x::l=>by rw [List.map_cons,lL,lL,Jd f g l]
theorem JD {α:Type} (c:Int) (f:α->Int):∀l:List α,lL (λx=>c*f x) l=c*lL f l
 | []=>by simp [lL]
 | x::l=>by rw [lL,lL,JD c f l,Int.mul_add]
theorem MP {α:Type} (lo:Int) (n:Nat) (g:α->Int->Int->Int):∀l:List α,lL (λr=>SS lo n (g r)) l=SS lo n (λx y=>lL (λr=>g r x y) l)
 | []=>(SS_zero lo n).symm
 | r::l=>by
  rw [lL,MP lo n g l,<- SS_add];rfl
def ind (r:Rect) (x y:Int):Int:=b01 (oO x y r)
theorem NW {lo:Int} {n:Nat} {r:Rect} (h1:lo<=r.X/\r.X+r.W<=lo+n) (h2:lo<=r.Y/\r.Y+r.H<=lo+n) (h3:0<=r.W) (h4:0<=r.H):SS lo n (ind r)=r.W*r.H:=by
 have e1:qX (λx=>b01 (decide (r.X<=x)&&decide (x<r.X+r.W))) lo n=r.W:=by rw [Ev h1.1 (by omega)];omega
 have e2:qX (λy=>b01 (decide (r.Y<=y)&&decide (y<r.Y+r.H))) lo n=r.H:=by rw [Ev h2.1 (by omega)];omega
 unfold SS ind oO
 rw [nX (g:=λy=>r.W*b01 (decide (r.Y<=y)&&decide (y<r.Y+r.H))) (λy=>by
  rw [nX (g:=λx=>b01 (decide (r.Y<=y)&&decide (y<r.Y+r.H))*b01 (decide (r.X<=x)&&decide (x<r.X+r.W))) (λx=>Mv _ _),EB,e1,Int.mul_comm]),EB,e2]
def PX (l:List Rect):Int:=lL (λr=>r.W*r.H) l
open Classical in
noncomputable def P01 (p:Prop):Int:=if p then 1 else 0
theorem Gu {p:Prop} (h:p):P01 p=1:=by unfold P01;rw [if_pos h]
theorem yQ {p:Prop} (h:¬p):P01 p=0:=by unfold P01;rw [if_neg h]
theorem yf {p q:Prop} (h:p↔q):P01 p=P01 q:=by rw [propext h]
theorem b01_P (b:Bool):b01 b=P01 (b=true):=by
 cases b
 ·rw [yQ (by simp)];rfl
 ·rw [Gu rfl];rfl
theorem LK (x:Int):∀(L:List Run) (lo:Int),bg lo L->lL (λr=>b01 (decide (r.f_from<=x)&&decide (x<r.f_to))) L=P01 (mem x L)
 | [],_,_=>by rw [yQ (iJ x)];rfl
 | r::L,lo,⟨h1,h2,h3⟩=>by
  rw [lL,LK x L _ h3,b01_P]
  simp only [Bool.and_eq_true,decide_eq_true_eq]
  by_cases k:r.f_from<=x/\x<r.f_to
  ·rw [Gu k,yQ (λm=>by have:=h3.gt m;omega),Gu ((mem_cons _ _ _).2 (.inl k))];rfl
  ·rw [yQ k,Int.zero_add]
   exact yf (by rw [mem_cons];simp [k])
theorem Jr (x y:Int):∀(bs:List Band) (lo:Int),lX lo bs->(∀b∈bs,∃c,bg c b.row)->lL (λr=>ind r x y) (jZ bs)=P01 (mem x (rowAt bs y))
 | [],_,_,_=>by rw [show rowAt [] y=[] from rfl,yQ (iJ x)];rfl
 | p::bs,lo,⟨h1,h2,h3,h4,h5⟩,hc=>by
  have e:jZ (p::bs)=p.row.map (y9 p.a (p.b-p.a))++jZ bs:=by simp [jZ]
  rw [e,Em,Jd,Jr x y bs _ h5 (λb hb=>hc b (by simp [hb]))]
  have e2:∀r:Run,ind (y9 p.a (p.b-p.a) r) x y=b01 (decide (p.a<=y)&&decide (y<p.b))*b01 (decide (r.f_from<=x)&&decide (x<r.f_to)):=λr=>by
   unfold ind oO y9
   rw [Mv]
   simp only
   rw [show r.f_from+(r.f_to-r.f_from)=r.f_to by omega,show p.a+(p.b-p.a)=p.b by omega]
  rw [zo (λr _=>e2 r),JD]
  obtain ⟨c,hcp⟩:=hc p (by simp)
  rw [LK x p.row c hcp]
  by_cases k1:p.a<=y
  ·by_cases k2:y<p.b
   ·rw [z8 k1 k2,xZ h5 k2,yQ (iJ x),decide_eq_true k1,decide_eq_true k2]
    show 1*_+0=_
    omega
   ·rw [rQ (.inr (by omega)),decide_eq_false k2,Bool.and_false]
    show 0*_+_=_
    omega
  ·rw [rQ (.inl (by omega)),decide_eq_false k1]
   show 0*_+_=_
   omega
theorem Ky {l m:List Rect} (hfl:∀r∈l,gM r) {bs:List Band} (hb:lX (-200000) bs) (hr:∀y,bg (-200000) (rowAt bs y)/\(∀r∈rowAt bs y,Okr r)/\∀x,mem x (rowAt bs y)↔iA l x y/\¬iA m x y) :
  (∀b∈bs,∃y,b.row=rowAt bs y/\b.a<=y/\y<b.b /\ -100000<=b.a/\b.b<=100000):=by
 have key:∀(bs':List Band) (lo:Int),lX lo bs'->∀b∈bs',(∀y,b.a<=y->y<b.b->rowAt bs' y=b.row)/\b.a<b.b/\b.row ≠ []:=by
  intro bs'
  induction bs' with
  | nil=>intro lo _ b hb;cases hb
  | cons p bs' ih =>
   rintro lo ⟨h1,h2,h3,h4,h5⟩ b hb
   rcases List.mem_cons.1 hb with rfl|hb
   ·exact⟨λy k1 k2=>z8 k1 k2,h2,h3⟩
   ·obtain ⟨i1,i2,i3⟩:=ih _ h5 b hb
    refine⟨λy k1 k2 => ?_,i2,i3⟩
    have hge:p.b<=y:=by
     rcases Int.lt_or_le y p.b with k|k
     ·have e:=i1 y k1 k2
      rw [xZ h5 k]at e
      exact absurd e.symm i3
     ·exact k
    rw [rQ (.inr hge)];exact i1 y k1 k2
 intro b hbm
 obtain ⟨i1,i2,i3⟩:=key bs _ hb b hbm
 have at_:∀y,b.a<=y->y<b.b -> -100000<=y/\y<100000:=λy k1 k2=>by
  obtain ⟨q,hq⟩:=List.exists_mem_of_ne_nil _ i3
  obtain ⟨c1,c2,c3⟩:=hr y
  rw [i1 y k1 k2]at c1 c2 c3
  have:=c2 q hq
  have hm:mem q.f_from b.row:=⟨q,hq,Int.le_refl _,this.2.1⟩
  obtain ⟨⟨r,hr,_,k3⟩,_⟩:=(c3 _).1 hm
  obtain ⟨f1,f2,f3,f4⟩:=hfl r hr
  omega
 have a1:=at_ b.a (Int.le_refl _) i2
 have a2:=at_ (b.b-1) (by omega) (by omega)
 exact⟨b.a,(i1 b.a (Int.le_refl _) i2).symm,Int.le_refl _,i2,by omega,by omega⟩
theorem xE {l m:List Rect} (hfl:∀r∈l,gM r) {bs:List Band} (hb:lX (-200000) bs) (hr:∀y,bg (-200000) (rowAt bs y)/\(∀r∈rowAt bs y,Okr r)/\∀x,mem x (rowAt bs y)↔iA l x y/\¬iA m x y) :
  (∀r∈jZ bs,gM r)/\(∀x y,lL (λr=>ind r x y) (jZ bs)=P01 (iA l x y/\¬iA m x y))/\∀n:Nat,n=200000->PX (jZ bs)=SS (-100000) n (λx y=>P01 (iA l x y/\¬iA m x y)):=by
 have hba:=Ky hfl hb hr
 have hfine:∀r∈jZ bs,gM r:=by
  intro r hrm
  obtain ⟨b,hb',hr'⟩:=List.mem_flatMap.1 hrm
  obtain ⟨q,hq,rfl⟩:=List.mem_map.1 hr'
  obtain ⟨y,e,k1,k2,k3,k4⟩:=hba b hb'
  have ho:=(hr y).2.1 q (by rw [<- e];exact hq)
  unfold Okr at ho
  refine⟨?_,?_,?_,?_⟩
  ·show -100000<=q.f_from/\q.f_from<=100000;omega
  ·show -100000<=b.a/\b.a<=100000;omega
  ·show 1<=q.f_to-q.f_from/\q.f_from+(q.f_to-q.f_from)<=100000;omega
  ·show 1<=b.b-b.a/\b.a+(b.b-b.a)<=100000;omega
 have hind:∀x y,lL (λr=>ind r x y) (jZ bs)=P01 (iA l x y/\¬iA m x y):=λx y=>by
  rw [Jr x y bs _ hb (λb hb'=>by
   obtain ⟨y,e,_⟩:=hba b hb'
   exact⟨_,by rw [e];exact (hr y).1⟩)]
  exact yf ((hr y).2.2 x)
 refine⟨hfine,hind,λn hn => ?_⟩
 unfold PX
 rw [zo (g:=λr=>SS (-100000) n (ind r)) (λr hr'=>by
  obtain ⟨f1,f2,f3,f4⟩:=hfine r hr'
  rw [NW (by omega) (by omega) (by omega) (by omega)]),MP]
 exact Oy hind
theorem BP {α:Type} [BEq α] [LawfulBEq α]:∀(l m:List α),l.Nodup->(∀x∈l,x∈m)->l.length<=m.length
 | [],_,_,_=>Nat.zero_le _
 | x::l,m,hd,hs=>by
  obtain ⟨h1,h2⟩:=List.nodup_cons.1 hd
  have hx:=hs x (by simp)
  have:=BP l (m.erase x) h2 (λy hy=>(List.mem_erase_of_ne (λe=>h1 (by rw [<- e];exact hy))).2 (hs y (by simp [hy])))
  have h3:=List.length_erase_of_mem hx
  have h4:=List.length_pos_of_mem hx
  simp only [List.length_cons];omega
theorem KD (r:Rect) (x y:Int):ind r x y=0\/ind r x y=1:=by
 unfold ind b01
 cases oO x y r
 ·exact .inl rfl
 ·exact .inr rfl
theorem N9 {r:Rect} {x y:Int} (h:oO x y r=true):ind r x y=1:=by unfold ind;rw [h];rfl
theorem ind_f {r:Rect} {x y:Int} (h:oO x y r=false):ind r x y=0:=by unfold ind;rw [h];rfl
def sG (l:List Rect) (x y:Int):Int:=lL (λr=>ind r x y) l
theorem xJ (x y:Int):∀l:List Rect,0<=sG l x y
 | []=>Int.le_refl _
 | r::l=>by
  have:=xJ x y l
  unfold sG at *
  rw [lL]
  rcases KD r x y with h|h <;> omega
theorem qE (l:List Rect) (x y:Int):iA l x y↔∃r∈l,oO x y r=true:=by
 rw [<- EY,hasB,List.any_eq_true]
theorem JB {x y:Int}:∀{l:List Rect},iA l x y->1<=sG l x y
 | [],h=>by rw [qE]at h;obtain ⟨r,hr,_⟩:=h;cases hr
 | r::l,h=>by
  have h0:=xJ x y l
  unfold sG at *
  rw [lL]
  rw [qE]at h
  obtain ⟨q,hq,hh⟩:=h
  rcases List.mem_cons.1 hq with rfl|hq
  ·rw [N9 hh];omega
  ·have:=JB (l:=l) ((qE _ _ _).2 ⟨q,hq,hh⟩)
   unfold sG at this
   rcases KD r x y with h|h <;> omega
theorem GY {x y:Int}:∀{l:List Rect},¬iA l x y->sG l x y=0
 | [],_=>rfl
 | r::l,h=>by
  unfold sG
  rw [lL]
  have h1:oO x y r=false:=by
   cases hh:oO x y r with
   | false=>rfl
   | true=>exact absurd ((qE _ _ _).2 ⟨r,by simp,hh⟩) h
  have h2:=GY (l:=l) (λk=>h (by
   obtain ⟨q,hq,hh⟩:=(qE _ _ _).1 k
   exact (qE _ _ _).2 ⟨q,by simp [hq],hh⟩))
  unfold sG at h2
  rw [ind_f h1,h2];rfl
theorem row_nodup (y:Int):∀l:List Rect,(∀x,sG l x y<=1)->(∀r∈l,1<=r.W)->((l.filter (covers y)).map (·.X)).Nodup
 | [],_,_=>List.nodup_nil
 | r::l,h,hw=>by
  have h':∀x,sG l x y<=1:=λx=>by
   have:=h x
   unfold sG at *
   rw [lL]at this
   rcases KD r x y with k|k <;> omega
  have ih:=row_nodup y l h' (λq hq=>hw q (by simp [hq]))
  rw [List.filter_cons]
  cases hc:covers y r with
  | false=>exact ih
  | true =>
   simp only [if_true,List.map_cons]
   refine List.nodup_cons.2 ⟨λhm => ?_,ih⟩
   obtain ⟨q,hq,he⟩:=List.mem_map.1 hm
   obtain ⟨q1,q2⟩:=List.mem_filter.1 hq
   have hwr:=hw r (by simp)
   have hwq:=hw q (by simp [q1])
   have e1:oO r.X y r=true:=by
    unfold oO;unfold covers at hc
    rw [hc,decide_eq_true (Int.le_refl _),decide_eq_true (show r.X<r.X+r.W by omega)];rfl
   have e2:oO r.X y q=true:=by
    unfold oO;unfold covers at q2
    rw [q2,<- he,decide_eq_true (Int.le_refl _),decide_eq_true (show q.X<q.X+q.W by omega)];rfl
   have h1:=h r.X
   have h2:=JB (l:=l) ((qE _ _ _).2 ⟨q,q1,e2⟩)
   unfold sG at h1 h2
   rw [lL,N9 e1]at h1
   omega
theorem Fv (x y:Int):∀l:List Rect,l.Pairwise (λa b=>∀x y,¬(oO x y a=true/\oO x y b=true))->sG l x y<=1
 | [],_=>by show (0:Int)<=1;omega
 | r::l,h=>by
  obtain ⟨h1,h2⟩:=List.pairwise_cons.1 h
  have ih:=Fv x y l h2
  have h0:=xJ x y l
  cases hh:oO x y r with
  | false =>
   unfold sG at *
   rw [lL,ind_f hh];omega
  | true =>
   have:¬iA l x y:=λk=>by
    obtain ⟨q,hq,hq2⟩:=(qE _ _ _).1 k
    exact h1 q hq x y ⟨hh,hq2⟩
   have:=GY this
   unfold sG at *
   rw [lL,N9 hh];omega
theorem GR:∀(bs:List Band) (lo:Int),lX lo bs->∀b∈bs,(∀y,b.a<=y->y<b.b->rowAt bs y=b.row)/\b.a<b.b/\b.row ≠ []
 | [],_,_,b,hb=>by cases hb
 | p::bs,lo,⟨h1,h2,h3,h4,h5⟩,b,hb=>by
  rcases List.mem_cons.1 hb with rfl|hb
  ·exact⟨λy k1 k2=>z8 k1 k2,h2,h3⟩
  ·obtain ⟨i1,i2,i3⟩:=GR bs _ h5 b hb
   refine⟨λy k1 k2 => ?_,i2,i3⟩
   have hge:p.b<=y:=by
    rcases Int.lt_or_le y p.b with k|k
    ·have e:=i1 y k1 k2
     rw [xZ h5 k]at e
     exact absurd e.symm i3
    ·exact k
   rw [rQ (.inr hge)];exact i1 y k1 k2
theorem Fg {bs:List Band} {lo:Int} (h:lX lo bs) {r:Rect} (hr:r∈jZ bs) {y:Int} (h1:r.Y<=y) (h2:y<r.Y+r.H):∃q∈rowAt bs y,r.X=q.f_from/\r.X+r.W=q.f_to:=by
 obtain ⟨b,hb,hr⟩:=List.mem_flatMap.1 hr
 obtain ⟨q,hq,rfl⟩:=List.mem_map.1 hr
 obtain ⟨i1,i2,i3⟩:=GR bs lo h b hb
 have e:b.a+(b.b-b.a)=b.b:=by omega
 refine⟨q,?_,rfl,by show q.f_from+(q.f_to-q.f_from)=q.f_to;omega⟩
 rw [i1 y h1 (by have:y<b.a+(b.b-b.a):=h2;omega)];exact hq
theorem zB:∀{L:List Run} {lo:Int},bg lo L->∀q∈L,¬mem (q.f_from-1) L
 | [],_,_,q,hq=>by cases hq
 | r::L,lo,⟨h1,h2,h3⟩,q,hq=>by
  rw [mem_cons]
  rcases List.mem_cons.1 hq with rfl|hq
  ·rintro (k|k)
   ·omega
   ·have:=h3.gt k;omega
  ·have h4:=h3.lo q hq
   rintro (k|k)
   ·omega
   ·exact zB h3 q hq k
def oo (a b:Rect):Rect×Bool :=
 bif decide (min (a.X+a.W) (b.X+b.W)-max a.X b.X<=0)||decide (min (a.Y+a.H) (b.Y+b.H)-max a.Y b.Y<=0)then (⟨0,0,0,0⟩,false)
 else (⟨max a.X b.X,max a.Y b.Y,min (a.X+a.W) (b.X+b.W)-max a.X b.X,min (a.Y+a.H) (b.Y+b.H)-max a.Y b.Y⟩,true)
def Bnd (r:Rect):Prop:=(-100000<=r.X/\r.X<=100000)/\(-100000<=r.Y/\r.Y<=100000)/\(0<=r.W/\r.X+r.W<=100000)/\0<=r.H/\r.Y+r.H<=100000
theorem minI_eq (a b:Int):fD a b=min a b:=by unfold fD;split <;> omega
theorem gM.bnd {r:Rect} (h:gM r):Bnd r:=by unfold gM at h;unfold Bnd;omega
theorem Ls {a b:Rect} (h:(oo a b).2=false) (x y:Int):¬(oO x y a=true/\oO x y b=true):=by
 unfold oo at h
 cases hc:decide (min (a.X+a.W) (b.X+b.W)-max a.X b.X<=0)||decide (min (a.Y+a.H) (b.Y+b.H)-max a.Y b.Y<=0)with
 | false=>rw [hc]at h;cases h
 | true =>
  simp only [Bool.or_eq_true,decide_eq_true_eq]at hc
  simp only [oO,Bool.and_eq_true,decide_eq_true_eq]
  omega
theorem NM {a b:Rect} (ha:Bnd a) (hb:Bnd b):Bnd (oo a b).1:=by
 unfold oo
 cases hc:decide (min (a.X+a.W) (b.X+b.W)-max a.X b.X<=0)||decide (min (a.Y+a.H) (b.Y+b.H)-max a.Y b.Y<=0)with
 | false =>
  simp only [Bool.or_eq_false_iff,decide_eq_false_iff_not]at hc
  unfold Bnd at *
  simp only [cond_false];omega
 | true=>unfold Bnd;simp only [cond_true];omega
theorem KA (a:Rect):(oo a ⟨0,0,0,0⟩).2=false:=by
 unfold oo
 have:decide (min (a.X+a.W) ((0:Int)+0)-max a.X 0<=0)=true:=by rw [decide_eq_true_eq];omega
 simp only [this,Bool.true_or,cond_true]
theorem Ml {a b:Rect} (ha:Bnd a) (hb:Bnd b):kW a b=some (oo a b):=by
 unfold Bnd at *
 unfold kW oo
 rw [bK (n:=a.X+a.W) (by omega),bK (n:=a.Y+a.H) (by omega),bK (n:=b.X+b.W) (by omega),bK (n:=b.Y+b.H) (by omega)]
 simp only [minI_eq,Dk]
 rw [bK (n:=min (a.X+a.W) (b.X+b.W)-max a.X b.X) (by omega),bK (n:=min (a.Y+a.H) (b.Y+b.H)-max a.Y b.Y) (by omega)]
 cases decide (min (a.X+a.W) (b.X+b.W)-max a.X b.X<=0) <;> cases decide (min (a.Y+a.H) (b.Y+b.H)-max a.Y b.Y<=0) <;> rfl
theorem Lj (R:List Rect) (h:R.length<=2000):w9 R=some (R,0):=by
 unfold w9
 have:decide ((R.length:Int)>2000)=false:=by simp;omega
 rw [this];rfl
theorem Nr (l:List Rect) (y:Int) (h:∀r∈l,gM r) (hl:(vo l y).length<=12) (hL:l.length<=100000):∃R,fH l y=some R/\bg (-200000) R/\(∀x,mem x R↔iA l x y)/\R.length<=(vo l y).length/\∀r∈R,Okr r:=by
 have hb:=L8 y h
 obtain ⟨s,h1,h2,h3⟩:=I4 (vo l y) (by omega) hb
 obtain ⟨R,k1,k2,k3,k4,k5⟩:=u6 s 0 [] (λr hr=>hb r (h2.mem_iff.1 hr)) (λo ho=>by cases ho) h3 (by rw [h2.length_eq];simp;omega) trivial (λo ho=>by cases ho)
 have hsm:gQ s (vo l y)=some ():=by unfold gQ;rw [if_pos h2.length_eq]
 refine⟨R,?_,k2,λx => ?_,by rw [h2.length_eq]at k4;simp at k4;omega,k5⟩
 ·unfold fH
  rw [dz (by omega),BU y l 0 [] h (by simp;omega),ob_]
  simp only [List.nil_append,thenC]
  rw [h1,ob_,hsm,ob_,dz (by rw [h2.length_eq];omega),k1];rfl
 ·rw [k3,<- JV]
  simp only [iJ,false_or]
  unfold mem
  exact⟨fun⟨r,hr,k⟩=>⟨r,h2.mem_iff.1 hr,k⟩,fun⟨r,hr,k⟩=>⟨r,h2.mem_iff.2 hr,k⟩⟩
theorem Ha (l m:List Rect) (a0 c0:Nat) (ha0:a0<=12) (hc0:c0<=12) (hfl:∀r∈l,gM r) (hfm:∀r∈m,gM r) (h1:∀y,(vo l y).length<=a0) (h2:m.length<=c0) (h3:l.length<=480) :
  ∃bs:List Band,dI l m=some (jZ bs)/\(jZ bs).length<=(2*(l.length+m.length)+1)*(a0*(c0+1))/\lX (-200000) bs/\(∀y,bg (-200000) (rowAt bs y)/\(∀r∈rowAt bs y,Okr r)/\∀x,mem x (rowAt bs y)↔iA l x y/\¬iA m x y):=by
 have hB:a0*(c0+1)<=12*13:=Nat.mul_le_mul ha0 (by omega)
 have hlm:∀r∈l++m,gM r:=λr hr=>by
  rcases List.mem_append.1 hr with hr|hr
  ·exact hfl r hr
  ·exact hfm r hr
 have hlen:(l++m).length<=492:=by simp;omega
 obtain ⟨ys,y1,y2,y3,y4⟩:=cutsOf ((l++m).flatMap yE) (by rw [Mi (λ_=>rfl)];omega)
 rw [Mi (λ_=>rfl)]at y4
 have ep:forL (l++m) ([]:List Int) (λk x s=>fZ k x s)=some (.go ((l++m).flatMap yE)):=by
  rw [dz (by omega),Dv yE (λ_=>rfl) (l++m) 0 [] (λk r s hr hs=>by
   obtain ⟨f1,f2,f3,f4⟩:=hlm r hr
   unfold fZ
   rw [bK (by omega),jO _ _ (by simp;omega)];rfl) (by simp at hlen ⊢;omega),List.nil_append]
 have inY:∀r∈l++m,r.Y∈ys/\r.Y+r.H∈ys:=λr hr=>⟨(y3 _).2 (List.mem_flatMap.2 ⟨r,hr,by simp [yE]⟩),(y3 _).2 (List.mem_flatMap.2 ⟨r,hr,by simp [yE]⟩)⟩
 have hby:∀y∈ys,Bd y:=λy hy=>by
  obtain ⟨r,hr,hy⟩:=List.mem_flatMap.1 ((y3 y).1 hy)
  obtain ⟨f1,f2,f3,f4⟩:=hlm r hr
  simp only [yE,List.mem_cons,List.not_mem_nil,or_false]at hy
  unfold Bd;omega
 have rows:∀y:Int,∃R:List Run,((fH l y).bind λr_45=>(fH m y).bind λr_47=>(jP r_45 r_47).bind λr_49=>some r_49)=some R/\bg (-200000) R/\(∀x,mem x R↔iA l x y/\¬iA m x y)/\(∀r∈R,Okr r)/\R.length<=a0*(c0+1):=by
  intro y
  obtain ⟨A,a1,a2,a3,a4,a5⟩:=Nr l y hfl (by have:=h1 y;omega) (by omega)
  obtain ⟨C,b1,b2,b3,b4,b5⟩:=runs_ok m y hfm (by omega)
  have a4':A.length<=a0:=Nat.le_trans a4 (h1 y)
  obtain ⟨R,r1,r2,r3,r4,r5⟩:=less_ok A C a2 b2 a5 (by omega) (by omega)
  exact⟨R,by rw [a1,ob_,b1,ob_,r1,ob_],r2,λx=>by rw [r3,a3,b3],r5,Nat.le_trans r4 (Nat.mul_le_mul a4' (by omega))⟩
 obtain ⟨Rw,hRw⟩:=Classical.axiomOfChoice rows
 have hcong:∀y y':Int,(∀x,(iA l x y/\¬iA m x y)↔(iA l x y'/\¬iA m x y'))->Rw y=Rw y':=λy y' h=>by
  obtain ⟨_,c1,c2,_⟩:=hRw y
  obtain ⟨_,d1,d2,_⟩:=hRw y'
  exact EE c1 d1 (λx=>by rw [c2,d2];exact h x)
 have hnone:∀y:Int,(∀x,¬iA l x y)->Rw y=[]:=λy h=>by
  obtain ⟨_,c1,c2,_⟩:=hRw y
  exact MZ c1 (λx hx=>h x ((c2 x).1 hx).1)
 have fY:Fits Rw ys:=by
  have p3:∀r∈l,r.Y∈ys/\r.Y+r.H∈ys:=λr hr=>inY r (by simp [hr])
  have p4:∀r∈m,r.Y∈ys/\r.Y+r.H∈ys:=λr hr=>inY r (by simp [hr])
  refine⟨y2,λy hy=>by have:=hby y hy;unfold Bd at this;omega,λj a b ha hb y h1 h2=>hcong _ _ (λx => ?_),λy hy=>hnone y ?_,λy hy=>hnone y ?_⟩
  ·exact and_congr (Pw y2 p3 ha hb h1 h2 x) (not_congr (Pw y2 p4 ha hb h1 h2 x))
  ·rintro x ⟨r,hr,_,k1,k2⟩
   have:=hy _ (p3 r hr).2;omega
  ·rintro x ⟨r,hr,_,k1,k2⟩
   have:=hy _ (p3 r hr).1;omega
 have hreg:dI l m=(forL ys (([]:List Rect),([]:List Run),(0:Int)) (λk x s=>dC ys l m k x s)).bind λo_38=>thenC o_38 (λs_32=>some s_32.1) (λ_=>none):=by
  unfold dI
  rw [Ng l m (by simp at hlen;omega),ob_,ep,ob_]
  simp only [thenC]
  obtain ⟨s,c,g1,g2,g3,g4,g5,g6⟩:=sortC ((l++m).flatMap yE) (by rw [Mi (λ_=>rfl)];omega)
  have hsm:gQ s ((l++m).flatMap yE)=some ():=by unfold gQ;rw [if_pos g2]
  rw [g1,ob_,hsm,ob_,g3,ob_]at y1
  simp only [so_]at y1
  subst y1
  rw [g1,ob_,hsm,ob_,g3,ob_]
 have progr:dI l m=some (jZ (gz (kY Rw ys) [] 0))/\(jZ (gz (kY Rw ys) [] 0)).length<=(2*(l.length+m.length)+1)*(a0*(c0+1)):=by
  rw [hreg]
  cases hy0:ys with
  | nil=>exact⟨by rw [dz (by simp)];rfl,Nat.zero_le _⟩
  | cons ya yl =>
   rw [<- hy0]
   have hyl:0<ys.length:=by rw [hy0];simp
   have hm:(ys.length-1+2)*(a0*(c0+1))<=(2*(l.length+m.length)+1)*(a0*(c0+1)):=Nat.mul_le_mul (by simp only [List.length_append]at y4;omega) (Nat.le_refl _)
   have hm2:(2*(l.length+m.length)+1)*(a0*(c0+1))<=985*(12*13):=Nat.mul_le_mul (by omega) hB
   obtain ⟨b2,f2,q1,q4⟩:=simP ys l m (a0*(c0+1)) (by omega) (by omega) hby Rw (λj y _ _=>by
    obtain ⟨r1,r2,r3,r5,r4⟩:=hRw y
    exact⟨r1,r5,r4⟩) (ys.length-1) 0 ya [] [] 0 (by omega) (by rw [hy0];rfl) (by unfold Bd;omega) (λr hr=>by cases hr) (by simp) (by simp;omega)
   rw [List.drop_zero]at q1 q4
   exact⟨by rw [dz (by omega),q1];rfl,by omega⟩
 obtain ⟨b1,b2⟩:=KZ fY 0
 refine⟨_,progr.1,progr.2,b1,λy => ?_⟩
 obtain ⟨r1,r2,r3,r5,r4⟩:=hRw y
 rw [b2]
 exact⟨r2,r5,r3⟩
def Oz (R:List Rect) (S:Int->Int->Prop):Prop:=∃bs:List Band,R=jZ bs/\lX (-200000) bs/\∀y,bg (-200000) (rowAt bs y)/\(∀r∈rowAt bs y,Okr r)/\∀x,mem x (rowAt bs y)↔S x y
theorem Oz.facts {R l m:List Rect} (h:Oz R (λx y=>iA l x y/\¬iA m x y)) (hfl:∀r∈l,gM r) :
  (∀r∈R,gM r)/\(∀x y,sG R x y=P01 (iA l x y/\¬iA m x y))/\∀n:Nat,n=200000->PX R=SS (-100000) n (λx y=>P01 (iA l x y/\¬iA m x y)):=by
 obtain ⟨bs,rfl,b1,b2⟩:=h
 exact xE hfl b1 b2
theorem P01_le (p:Prop):P01 p<=1:=by
 by_cases h:p
 ·rw [Gu h];omega
 ·rw [yQ h];omega
theorem Oz.row {R l m:List Rect} (h:Oz R (λx y=>iA l x y/\¬iA m x y)) (hfl:∀r∈l,gM r) (y:Int):(vo R y).length<=l.length+m.length:=by
 obtain ⟨f1,f2,_⟩:=h.facts hfl
 have hn:=row_nodup y R (λx=>by rw [f2];exact P01_le _) (λr hr=>(f1 r hr).2.2.1.1)
 obtain ⟨bs,rfl,b1,b2⟩:=h
 have hm:∀v∈((jZ bs).filter (covers y)).map (·.X),v∈l.map (·.X)++m.map (λr=>r.X+r.W):=by
  intro v hv
  obtain ⟨r,hr,rfl⟩:=List.mem_map.1 hv
  obtain ⟨hr1,hr2⟩:=List.mem_filter.1 hr
  have hy:r.Y<=y/\y<r.Y+r.H:=by
   simp only [covers,Bool.and_eq_true,decide_eq_true_eq]at hr2;exact hr2
  obtain ⟨q,hq,e1,e2⟩:=Fg b1 hr1 hy.1 hy.2
  obtain ⟨c1,c2,c3⟩:=b2 y
  have hl:=zB c1 q hq
  have hlt:=(c1.lo q hq).2
  have hin:=(c3 q.f_from).1 ⟨q,hq,Int.le_refl _,hlt⟩
  rw [c3]at hl
  obtain ⟨⟨s,hs,s1,s2⟩,hnm⟩:=hin
  rw [e1]
  by_cases hm':iA m (q.f_from-1) y
  ·obtain ⟨t,ht,t1,t2⟩:=hm'
   refine List.mem_append.2 (.inr (List.mem_map.2 ⟨t,ht,?_⟩))
   have:¬(t.X<=q.f_from/\q.f_from<t.X+t.W):=λk=>hnm ⟨t,ht,k,t2⟩
   omega
  ·refine List.mem_append.2 (.inl (List.mem_map.2 ⟨s,hs,?_⟩))
   have:¬(s.X<=q.f_from-1/\q.f_from-1<s.X+s.W):=λk=>hl ⟨⟨s,hs,k,s2⟩,hm'⟩
   omega
 have:=BP _ _ hn hm
 simp only [List.length_map,List.length_append]at this
 unfold vo
 rw [List.length_map];exact this
theorem HZ (l:List Rect) (y:Int):(vo l y).length<=l.length:=by unfold vo;rw [List.length_map];exact List.length_filter_le _ _
theorem zF (l m:List Rect) (a0 c0:Nat) (ha0:a0<=12) (hc0:c0<=12) (hfl:∀r∈l,gM r) (hfm:∀r∈m,gM r) (h1:∀y,(vo l y).length<=a0) (h2:m.length<=c0) (h3:l.length<=480) :
  ∃R:List Rect,dI l m=some R/\R.length<=(2*(l.length+m.length)+1)*(a0*(c0+1))/\Oz R (λx y=>iA l x y/\¬iA m x y):=by
 obtain ⟨bs,e,k,b1,b2⟩:=Ha l m a0 c0 ha0 hc0 hfl hfm h1 h2 h3
 exact⟨_,e,k,bs,rfl,b1,b2⟩
theorem E9 (l:List Rect) (hl:l.length<=2000) (h:∀r∈l,uB r=false):dX l=some 0:=by
 have key:∀(xs:List Rect) (k:Nat),(∀r∈xs,uB r=false)->forR (λk x s=>gp k x s) xs k ()=some (.go ()):=by
  intro xs
  induction xs with
  | nil=>exact λ_ _=>rfl
  | cons x xs ih =>
   intro k hx
   rw [forR]
   have:gp k x ()=some (.go ()):=by
    unfold gp
    rw [wD,hx x (by simp)];rfl
   rw [this,ob_]
   exact ih (k+1) (λr hr=>hx r (by simp [hr]))
 unfold dX
 rw [decide_eq_false (show ¬(l.length:Int)>2000 by omega),cond_false,dz (by omega),key l 0 h];rfl
theorem Ns {r:Rect} (h:gM r):uB r=false:=by
 unfold gM at h
 unfold uB
 rw [bK (n:=100000-r.X) (by omega),bK (n:=100000-r.Y) (by omega),mW (by omega),mW (by omega),mW (by omega),mW (by omega)];rfl
def Ok (s:Stream) (b:Int):Prop:=0<=s.f_at/\s.f_at<=b
theorem Ok.mono {s:Stream} {b c:Int} (h:Ok s b) (hc:b<=c):Ok s c:=⟨h.1,Int.le_trans h.2 hc⟩
theorem DN (x n:Int) (h:1<=n) (hn:n<=4611686018427387904):∃r,sO x n=some r/\0<=r/\r<n:=by
 have h1:x.tmod n<n:=Int.tmod_lt_of_pos x (by omega)
 have h2 : -n<x.tmod n:=Int.lt_tmod_of_pos x (by omega)
 have hb:decide (n<1)=false:=by simp;omega
 have hn0:n≠0:=by omega
 simp only [sO,hb,cond_false,Jk,if_neg hn0,ob_]
 cases hd:decide (x.tmod n<0)with
 | true =>
  simp only [decide_eq_true_eq]at hd
  exact⟨_,rfl,by rw [bK (by omega)];omega,by rw [bK (by omega)];omega⟩
 | false =>
  simp only [decide_eq_false_iff_not]at hd
  exact⟨_,rfl,by omega,h1⟩
theorem IP (s:Stream) (n:Int) {b:Int} (hs:Ok s b) (hb:b<=1000000) (h:1<=n) (hn:n<=4611686018427387904):∃r s',jq s n=some (r,s')/\0<=r/\r<n/\Ok s' (b+1):=by
 obtain ⟨h0,h1⟩:=hs
 have e1:w64 (s.f_at+1)=s.f_at+1:=bK (by omega)
 have e2:w64 (s.f_at+1-1)=s.f_at:=by rw [bK (by omega)];omega
 simp only [jq,e1,e2]
 by_cases hl:s.L.length=0
 ·have:((s.L.length:Int)==0)=true:=by simp [hl]
  simp only [this,cond_true]
  obtain ⟨r,hr,h2,h3⟩:=DN (w64 ((s.f_at+1)*7919)) n h hn
  exact⟨r,_,by rw [hr];rfl,h2,h3,⟨by show 0<=s.f_at+1;omega,by show s.f_at+1<=b+1;omega⟩⟩
 ·have hne:(s.L.length:Int)≠0:=by omega
  have:((s.L.length:Int)==0)=false:=by simpa using hl
  simp only [this,cond_false,Jk,BL,if_neg hne,ob_]
  have h2:0<=s.f_at.tmod s.L.length:=Int.tmod_nonneg _ h0
  have hp:(0:Int)<(s.L.length:Int):=by have:=Nat.pos_of_ne_zero hl;omega
  have h3:s.f_at.tmod s.L.length<s.L.length:=Int.tmod_lt_of_pos _ hp
  have hi:idx s.L (s.f_at.tmod s.L.length)=some s.L[(s.f_at.tmod s.L.length).toNat]:=by
   simp only [idx,if_pos h2]
   exact List.getElem?_eq_getElem (by omega)
  obtain ⟨r1,hr1,_,_⟩:=DN s.L[(s.f_at.tmod s.L.length).toNat] 1073741824 (by decide) (by decide)
  simp only [hi,hr1,ob_]
  generalize w64 (r1+_)=y
  obtain ⟨r,hr,h4,h5⟩:=DN y n h hn
  exact⟨r,_,by rw [hr];rfl,h4,h5,⟨by show 0<=s.f_at+1;omega,by show s.f_at+1<=b+1;omega⟩⟩
theorem LY (s:Stream) (n:Int) {b:Int} (hs:Ok s b) (hb:b<=1000000) (h:1<=n) (hn:n<=1000):∃r s',kz s n=some (r,s')/\Ok s' (b+1):=by
 obtain ⟨r,s',h1,_,_,h2⟩:=IP s n hs hb h (by omega)
 exact⟨r==0,s',by simp only [kz,h1,ob_],h2⟩
theorem idx_mem {α:Type} {l:List α} {r:Int} (h0:0<=r) (h1:r<l.length):∃y,idx l r=some y/\y∈l:=by
 refine⟨l[r.toNat]'(by omega),?_,List.getElem_mem _⟩
 simp only [idx,if_pos h0]
 exact List.getElem?_eq_getElem (by omega)
theorem Ay (s:Stream) (l:List Int) {b:Int} (hs:Ok s b) (hb:b<=1000000) (h:1<=l.length) (hn:l.length<=1000):∃r s',gG s l=some (r,s')/\r∈l/\Ok s' (b+1):=by
 obtain ⟨r,s',h1,h2,h3,h4⟩:=IP s l.length hs hb (by omega) (by omega)
 obtain ⟨y,hy,hm⟩:=idx_mem h2 h3
 exact⟨y,s',by simp only [gG,h1,hy,ob_],hm,h4⟩
theorem lF (s:Stream) (lo hi:Int) {b:Int} (hs:Ok s b) (hb:b<=1000000) (h:lo<=hi) (h1 : -1000000000000<=lo) (h2:hi<=1000000000000):∃r s',cB s lo hi=some (r,s')/\lo<=r/\r<=hi/\Ok s' (b+1):=by
 have hd:decide (hi<lo)=false:=by simp;omega
 have e1:w64 (hi-lo)=hi-lo:=bK (by omega)
 have e2:w64 (hi-lo+1)=hi-lo+1:=bK (by omega)
 obtain ⟨r,s',k1,k2,k3,k4⟩:=IP s (hi-lo+1) hs hb (by omega) (by omega)
 simp only [cB,hd,cond_false,e1,e2,k1,ob_]
 exact⟨_,s',rfl,by rw [bK (by omega)];omega,by rw [bK (by omega)];omega,k4⟩
def FO (b:UInt8):Bool:=decide (97<=b.toNat)&&decide (b.toNat<=122)
def Ke (b:UInt8):Bool:=(decide (48<=b.toNat)&&decide (b.toNat<=57))||(b.toNat==45)||(b.toNat==95)
def okB (i:Nat) (b:UInt8):Bool:=FO b||(decide (0<i)&&Ke b)
def ik (s:ByteArray) (i:Nat):UInt8:=s.data.toList.getD i 0
def pq (s:ByteArray):Bool:=decide (s.size≠0)&&(decide (s.size<=40)&&(List.range s.size).all λi=>okB i (ik s i))
theorem Jv (s:ByteArray) (k:Nat) (h:k<s.size):pg s (k:Int)=some (ik s k):=by
 have h1:s[k]? = some s[k]:=by simp [h]
 have h2:ik s k=s[k]:=by
  have hl:k<s.data.toList.length:=by rw [<- Go.Lib.size_eq];exact h
  simp only [ik,List.getD_eq_getElem?_getD,List.getElem?_eq_getElem hl,Option.getD_some]
  simp
  rfl
 simp only [pg,if_pos (Int.natCast_nonneg k),Int.toNat_natCast,h1,h2]
theorem I9 (s:ByteArray) (k:Nat) (hs:s.size<=1000000000):jR s (k:Int)=some (if k<s.size then (bif okB k (ik s k)then .go ((k+1:Nat):Int)else .ret false)else .brk (k:Int)):=by
 unfold jR
 by_cases h:k<s.size
 ·have hd:decide ((k:Int)<(s.size:Int))=true:=by simp;omega
  have hw:w64 ((k:Int)+1)=((k+1:Nat):Int):=by rw [bK (by omega)];omega
  simp only [hd,cond_true,Jv s k h,ob_,if_pos h,hw]
  generalize ik s k=b
  simp only [okB,FO,Ke]
  have e1:decide ((b.toNat:Int)>=97)=decide (97<=b.toNat):=decide_eq_decide.2 (by omega)
  have e2:decide ((b.toNat:Int)<=122)=decide (b.toNat<=122):=decide_eq_decide.2 (by omega)
  have e3:decide ((k:Int)>0)=decide (0<k):=decide_eq_decide.2 (by omega)
  have e4:decide ((b.toNat:Int)>=48)=decide (48<=b.toNat):=decide_eq_decide.2 (by omega)
  have e5:decide ((b.toNat:Int)<=57)=decide (b.toNat<=57):=decide_eq_decide.2 (by omega)
  have e6:((b.toNat:Int)==45)=(b.toNat==45):=by rw [Bool.eq_iff_iff];simp;omega
  have e7:((b.toNat:Int)==95)=(b.toNat==95):=by rw [Bool.eq_iff_iff];simp;omega
  rw [e1,e2,e3,e4,e5,e6,e7]
  cases decide (97<=b.toNat) <;> cases decide (b.toNat<=122) <;> cases decide (0<k) <;> cases decide (48<=b.toNat) <;> cases decide (b.toNat<=57) <;> cases (b.toNat==45) <;> cases (b.toNat==95) <;> rfl
 ·have hd:decide ((k:Int)<(s.size:Int))=false:=by simp;omega
  simp only [hd,cond_false,if_neg h]
theorem EN (s:ByteArray) (hs:s.size<=1000000000):∀(n k:Nat),k+n=s.size->iterN (λi=>jR s i) (n+1) (k:Int)=some (bif (List.range' k n).all (λj=>okB j (ik s j))then .go (s.size:Int)else .ret false)
 | 0,k,h=>by
  have hk:¬k<s.size:=by omega
  simp only [iterN,I9 s k hs,if_neg hk,ob_,List.range'_zero,List.all_nil,cond_true]
  rw [show (k:Int)=s.size by omega]
 | n+1,k,h=>by
  have hk:k<s.size:=by omega
  rw [iterN,I9 s k hs,if_pos hk,ob_,List.range'_succ,List.all_cons]
  cases okB k (ik s k)with
  | true=>simp only [cond_true,Bool.true_and];exact EN s hs n (k+1) (by omega)
  | false=>rfl
theorem xK (s:ByteArray) (hs:s.size<=1000000000):eG s=some (pq s):=by
 have h:=jb (EN s hs s.size 0 (by omega))
 unfold eG
 have h':jK (0:Int) (λs_1=>jR s s_1)=_:=h
 rw [h',ob_,<- List.range_eq_range']
 have e:decide ((s.size:Int)<=40)=decide (s.size<=40):=decide_eq_decide.2 (by omega)
 simp only [pq]
 cases (List.range s.size).all (λi=>okB i (ik s i))with
 | true =>
  rw [cond_true,J9,sNe_nil,e,Bool.and_true]
  cases decide (s.size≠0) <;> rfl
 | false=>simp only [cond_false,MR,Bool.and_false]
def uF (t:ByteArray) (b:UInt8):Bool := !decide (ixB t (b.toNat:Int)<0)
theorem only_L1 (s t:ByteArray) (k x:Nat) (h:k<s.size):ou s t k x ()=some (bif uF t (ik s k)then .go ()else .ret false):=by
 simp only [ou,Jv s k h,strings_IndexByte,dS,ob_,uF]
 cases decide (ixB t ((ik s k).toNat:Int)<0) <;> rfl
theorem JE (s t:ByteArray):∀(xs:List Nat) (k:Nat),k+xs.length=s.size->forR (λk x u=>ou s t k x u) xs k ()=some (bif (List.range' k xs.length).all (λj=>uF t (ik s j))then .go ()else .ret false)
 | [],k,h=>rfl
 | x::xs,k,h=>by
  simp only [List.length_cons]at h ⊢
  have hk:k<s.size:=by omega
  rw [forR,only_L1 s t k x hk,ob_,List.range'_succ,List.all_cons]
  cases uF t (ik s k)with
  | true=>simp only [cond_true,Bool.true_and];exact JE s t xs (k+1) (by omega)
  | false=>rfl
theorem L6 (s t:ByteArray) (hs:s.size<=1000000000):uS s t=some ((List.range s.size).all λi=>uF t (ik s i)):=by
 unfold uS
 rw [Int.toNat_natCast,dz (by simp;omega),JE s t _ 0 (by simp),ob_,List.length_range,<- List.range_eq_range']
 cases (List.range s.size).all (λi=>uF t (ik s i)) <;> rfl
def GH:ByteArray:=⟨#[97,98,99,100,101,102,103,104,105,106,107,108,109,110,111,112,113,114,115,116,117,118,119,120,121,122]⟩
def Ee:ByteArray:=⟨#[97,98,99,100,101,102,103,104,105,106,107,108,109,110,111,112,113,114,115,116,117,118,119,120,121,122,48,49,50,51,52,53,54,55,56,57,45,95]⟩
theorem Ga:∀n:Fin 256,uF GH (UInt8.ofNat n.val)=FO (UInt8.ofNat n.val)/\uF Ee (UInt8.ofNat n.val)=(FO (UInt8.ofNat n.val)||Ke (UInt8.ofNat n.val)):=by decide +kernel
theorem JR (b:UInt8):uF GH b=FO b:=by
 have:=(Ga ⟨b.toNat,b.toNat_lt⟩).1
 simpa using this
theorem I5 (b:UInt8):uF Ee b=(FO b||Ke b):=by
 have:=(Ga ⟨b.toNat,b.toNat_lt⟩).2
 simpa using this
theorem F6 (s:ByteArray) (hs:s.size<=1000000000):x8 s=some (pq s):=by
 unfold x8 rY
 have e1:decide ((1:Int)<=(s.size:Int))=decide (s.size≠0):=decide_eq_decide.2 (by omega)
 have e2:decide ((s.size:Int)<=40)=decide (s.size<=40):=decide_eq_decide.2 (by omega)
 rw [e1,e2]
 by_cases h1:s.size≠0
 ·by_cases h2:s.size<=40
  ·have hsub:sH s 0 1=some (s.extract 0 1):=by
    unfold sH;rw [if_pos ⟨by omega,by omega,by decide,by show 1<=s.size;omega⟩];rfl
   have hsz:(s.extract 0 1).size=1:=by simp [ByteArray.size_extract];omega
   have hb:ik (s.extract 0 1) 0=ik s 0:=by
    obtain ⟨⟨l⟩⟩:=s
    simp only [ik]
    cases l with
    | nil=>exact absurd rfl h1
    | cons b l=>simp [ByteArray.extract,ByteArray.copySlice]
   simp only [decide_eq_true h1,decide_eq_true h2,cond_true,ob_,hsub]
   have o1:=L6 (s.extract 0 1) GH (by omega)
   have o2:=L6 s Ee hs
   unfold GH at o1
   unfold Ee at o2
   rw [o1,ob_,o2]
   have e3:(List.range (s.extract 0 1).size).all (λi=>uF GH (ik (s.extract 0 1) i))=FO (ik s 0):=by
    rw [hsz]
    simp only [List.range_succ,List.range_zero,List.nil_append,List.all_cons,List.all_nil,Bool.and_true]
    rw [hb,JR]
   have e3':=e3
   unfold GH at e3'
   rw [e3']
   have e4:∀i,uF Ee (ik s i)=(FO (ik s i)||Ke (ik s i)):=λi=>I5 _
   have e5:pq s=(FO (ik s 0)&&(List.range s.size).all (λi=>uF Ee (ik s i))):=by
    simp only [pq,decide_eq_true h1,decide_eq_true h2,Bool.true_and,e4]
    rw [Bool.eq_iff_iff]
    simp only [List.all_eq_true,List.mem_range,Bool.and_eq_true,okB,Bool.or_eq_true,decide_eq_true_eq]
    constructor
    ·intro h
     refine⟨?_,λi hi=>(h i hi).imp id (λh=>h.2)⟩
     rcases h 0 (by omega)with h|h
     ·exact h
     ·exact absurd h.1 (by omega)
    ·rintro ⟨h3,h4⟩ i hi
     by_cases e:i=0
     ·rw [e];exact .inl h3
     ·exact (h4 i hi).imp id (λh=>⟨by omega,h⟩)
   unfold Ee at e5
   rw [e5]
   cases FO (ik s 0) <;> rfl
  ·simp only [decide_eq_true h1,decide_eq_false h2,cond_true,cond_false,ob_,pq,Bool.false_and,Bool.and_false]
 ·simp only [decide_eq_false h1,cond_false,ob_,pq,Bool.false_and]
theorem Mk {s:ByteArray} (h:pq s=true):s.size≠0:=by
 simp only [pq,Bool.and_eq_true,decide_eq_true_eq]at h
 exact h.1
def vU:ByteArray:=⟨#[]⟩
def wN {α:Type} (key:α->ByteArray) (l:List α) (k:Nat):ByteArray:=if k=0 then vU else match l[k-1]? with | some y=>key y | none=>vU
def chk {α:Type} (key:α->ByteArray) (stp:ByteArray->α->Int):ByteArray->List α->Int
 | _,[]=>0
 | last,x::xs=>bif stp last x==0 then chk key stp (key x) xs else stp last x
def MW (e:Int):Ctl Unit Int:=bif e==0 then .go ()else .ret e
theorem Fx {α:Type} {key:α->ByteArray} {stp:ByteArray->α->Int} {body:Nat->α->Unit->Option (Ctl Unit Int)} (l:List α):∀(xs:List α) (k:Nat),l.drop k=xs->(∀k x,l[k]? = some x->body k x ()=some (MW (stp (wN key l k) x))) ->
  forR body xs k ()=some (MW (chk key stp (wN key l k) xs))
 | [],k,h,hb=>rfl
 | x::xs,k,h,hb=>by
  have hg:=rZ h
  rw [forR,hb k x hg,ob_,chk]
  cases he:stp (wN key l k) x==0 with
  | true =>
   simp only [MW,he,cond_true]
   rw [Fx l xs (k+1) (aN h) hb]
   have:wN key l (k+1)=key x:=by simp [wN,hg]
   rw [this];rfl
  | false=>simp only [MW,he,cond_false]
theorem OL {α:Type} {l:List α} {k:Nat} {x:α} (h:l[k]? = some x) (hk:0<k) (hl:l.length<=1000000000):∃y,idx l (w64 ((k:Int)-1))=some y/\l[k-1]? = some y:=by
 have hlt:k<l.length:=(List.getElem?_eq_some_iff.1 h).1
 rw [bK (by omega),show (k:Int)-1=((k-1:Nat):Int) by omega,tT]
 exact⟨l[k-1],List.getElem?_eq_getElem (by omega),List.getElem?_eq_getElem (by omega)⟩
theorem G7 {α:Type} {key:α->ByteArray} {l:List α} {k:Nat} {x:α} {s:ByteArray} (h:l[k]? = some x) (hl:l.length<=1000000000) (hs:s.size≠0) :
  (bif decide ((k:Int)>0)then (idx l (w64 ((k:Int)-1))).bind λy=>some (sLe s (key y))else some false)=some (sLe s (wN key l k)):=by
 by_cases hk:0<k
 ·obtain ⟨y,h1,h2⟩:=OL h hk hl
  have hd:decide ((k:Int)>0)=true:=by simp;omega
  simp only [hd,cond_true,h1,ob_,wN,if_neg (show ¬k=0 by omega),h2]
 ·have hk0:k=0:=by omega
  subst hk0
  simp only [wN,if_pos,vU,sLe_nil,decide_eq_false hs]
  rfl
theorem PP {α:Type} {key:α->ByteArray} {stp:ByteArray->α->Int} {body:Nat->α->ByteArray->Option (Ctl ByteArray Int)}:∀(xs:List α) (k:Nat) (last:ByteArray),(∀k x last,x∈xs->body k x last=some (bif stp last x==0 then .go (key x)else .ret (stp last x))) ->
  ∃last',forR body xs k last=some (bif chk key stp last xs==0 then .go last' else .ret (chk key stp last xs))
 | [],k,last,hb=>⟨last,rfl⟩
 | x::xs,k,last,hb=>by
  rw [forR,hb k x last (by simp),ob_,chk]
  cases he:stp last x==0 with
  | true=>exact PP xs (k+1) (key x) (λk y last hy=>hb k y last (by simp [hy]))
  | false =>
   refine⟨last,?_⟩
   simp only [cond_false,he]
def Ar (n:Int):Bool:=qw n 1 20000
theorem NB (n:Int):nK n=some (!Ar n):=by unfold nK;rw [zb];rfl
theorem Mh (n:Int):uL n=some (!Ar n):=by unfold uL;rw [in_eq];rfl
theorem Kj (a b:Int):iE [a,b]=some (bif Ar a||Ar b then 1 else 0):=by
 unfold iE
 rw [dz (by simp)]
 simp only [forR,jT,NB,ob_,Bool.not_not]
 cases Ar a <;> cases Ar b <;> rfl
def uR (r:Rect) (w h:Int):Bool:=decide (r.X>=0)&&(decide (r.Y>=0)&&(decide (w64 (r.X+r.W)<=w)&&decide (w64 (r.Y+r.H)<=h)))
theorem Bw (r:Rect) (w h:Int):lJ r w h=some (uR r w h):=by
 unfold lJ uR
 cases decide (r.X>=0) <;> cases decide (r.Y>=0) <;> cases decide (w64 (r.X+r.W)<=w) <;> rfl
theorem Nf (r:Rect) (w h:Int):vM r w h=some (uR r w h):=Bw r w h
def E8 (l:Layout) (last:ByteArray) (z:Zone):Int:=bif !pq z.Key then 5 else bif uB z.On then 1 else bif !uR z.On l.W l.H then 3 else bif qw z.Order 0 1000 then 1 else bif sLe z.Key last then 7 else 0
theorem Ka {l:Layout}:∀(zs:List Zone) (last:ByteArray),chk (λz:Zone=>z.Key) (E8 l) last zs=0->(∀z∈zs,gM z.On/\uR z.On l.W l.H=true/\pq z.Key=true/\lt last z.Key)/\zs.Pairwise (λa b=>lt a.Key b.Key)
 | [],_,_=>⟨λz hz=>(by cases hz),List.Pairwise.nil⟩
 | x::zs,last,h=>by
  rw [chk]at h
  cases he:E8 l last x==0 with
  | false=>rw [he,cond_false]at h;rw [h]at he;cases he
  | true =>
   rw [he,cond_true]at h
   obtain ⟨i1,i2⟩:=Ka zs _ h
   have he:=eq_of_beq he
   have hx:gM x.On/\uR x.On l.W l.H=true/\pq x.Key=true/\lt last x.Key:=by
    unfold E8 at he
    cases hk:pq x.Key with
    | false=>rw [hk]at he;cases he
    | true =>
     cases hb:uB x.On with
     | true=>rw [hk,hb]at he;cases he
     | false =>
      cases hi:uR x.On l.W l.H with
      | false=>rw [hk,hb,hi]at he;cases he
      | true =>
       cases ho:qw x.Order 0 1000 with
       | true=>rw [hk,hb,hi,ho]at he;cases he
       | false =>
        cases hl:sLe x.Key last with
        | true=>rw [hk,hb,hi,ho,hl]at he;cases he
        | false =>
         refine⟨GN hb,rfl,rfl,?_⟩
         have:=De x.Key last
         rw [hl]at this
         simp only [Bool.false_eq_true,false_iff,Classical.not_not]at this
         exact this
   refine⟨λz hz => ?_,List.pairwise_cons.2 ⟨λz hz=>(i1 z hz).2.2.2,i2⟩⟩
   rcases List.mem_cons.1 hz with rfl|hz
   ·exact hx
   ·obtain ⟨a,b,c,d⟩:=i1 z hz
    exact⟨a,b,c,lt_trans hx.2.2.2 d⟩
def Ni (zs:List Zone) (x y:Int) (i:Nat):Prop:=∃z,zs[i]? = some z/\oO x y z.On=true
def cov (zs:List Zone) (i k:Nat):Prop:=∃a b,zs[i]? = some a/\zs[k]? = some b/\(b.Order<a.Order\/a.Order=b.Order/\k<i)
def Hq (a b:Zone) (i k:Nat):Bool:=decide (b.Order<a.Order)||((a.Order==b.Order)&&decide (k<i))
theorem Mf {zs:List Zone} {i k:Nat} {a b:Zone} (ha:zs[i]? = some a) (hb:zs[k]? = some b):cov zs i k↔Hq a b i k=true:=by
 unfold cov Hq
 simp only [Bool.or_eq_true,Bool.and_eq_true,decide_eq_true_eq,beq_iff_eq]
 constructor
 ·rintro ⟨a',b',h1,h2,h3⟩
  rw [ha]at h1;rw [hb]at h2
  simp only [so_]at h1 h2
  subst h1;subst h2
  exact h3
 ·exact λh=>⟨a,b,ha,hb,h⟩
theorem NR {zs:List Zone} {i k:Nat} {a b:Zone} (ha:zs[i]? = some a) (hb:zs[k]? = some b):nC zs (i:Int) (k:Int)=some (Hq a b i k):=by
 unfold nC Hq
 simp only [tT,ha,hb,ob_]
 have e:decide ((i:Int)>(k:Int))=decide (k<i):=decide_eq_decide.2 (by omega)
 have e2:decide (a.Order>b.Order)=decide (b.Order<a.Order):=rfl
 rw [e,e2]
 cases decide (b.Order<a.Order) <;> cases a.Order==b.Order <;> rfl
theorem cov_tot {zs:List Zone} {i k:Nat} {a b:Zone} (ha:zs[i]? = some a) (hb:zs[k]? = some b) (h:i≠k):cov zs i k\/cov zs k i:=by
 by_cases h1:b.Order<a.Order
 ·exact .inl ⟨a,b,ha,hb,.inl h1⟩
 ·by_cases h2:a.Order<b.Order
  ·exact .inr ⟨b,a,hb,ha,.inl h2⟩
  ·have h3:a.Order=b.Order:=by omega
   by_cases h4:k<i
   ·exact .inl ⟨a,b,ha,hb,.inr ⟨h3,h4⟩⟩
   ·exact .inr ⟨b,a,hb,ha,.inr ⟨h3.symm,by omega⟩⟩
theorem DU (L:Layout) (kk:Nat) (zk:Zone) (hk:L.Zones[kk]? = some zk) (hl:L.Zones.length<=1000):∀(l:List Zone) (k:Nat) (s:List Rect),L.Zones.drop k=l->s.length<=k->(∀r,r∈s↔∃(i:Nat) (z:Zone),i<k/\L.Zones[i]? = some z/\cov L.Zones i kk/\r=z.On) ->
  ∃s',forR (λk z s=>iZ L kk k z s) l k s=some (.go s')/\s'.length<=k+l.length/\∀r,r∈s'↔∃(i:Nat) (z:Zone),i<k+l.length/\L.Zones[i]? = some z/\cov L.Zones i kk/\r=z.On
 | [],k,s,_,hs,hm=>⟨s,rfl,hs,hm⟩
 | z::l,k,s,h,hs,hm=>by
  have hg:=rZ h
  have hlt:=ul h
  have hB:iZ L kk k z s=some (.go (s++bif Hq z zk k kk then [z.On]else [])):=by
   unfold iZ
   rw [NR hg hk,ob_]
   cases Hq z zk k kk with
   | true=>rw [cond_true,jO _ _ (by simp;omega)];rfl
   | false=>simp
  rw [forR,hB]
  obtain ⟨s',c1,c2,c3⟩:=DU L kk zk hk hl l (k+1) (s++bif Hq z zk k kk then [z.On]else []) (aN h) (by cases Hq z zk k kk <;> simp <;> omega) (λr=>by
   rw [List.mem_append,hm]
   constructor
   ·rintro (⟨i,z',a,b,c,d⟩|hr)
    ·exact⟨i,z',by omega,b,c,d⟩
    ·cases hc:Hq z zk k kk with
     | false=>rw [hc]at hr;cases hr
     | true =>
      rw [hc]at hr
      simp only [cond_true,List.mem_singleton]at hr
      exact⟨k,z,by omega,hg,(Mf hg hk).2 hc,hr⟩
   ·rintro ⟨i,z',a,b,c,d⟩
    rcases Nat.lt_or_ge i k with g|g
    ·exact .inl ⟨i,z',g,b,c,d⟩
    ·have:i=k:=by omega
     subst this
     rw [hg]at b
     simp only [so_]at b
     subst b
     right
     rw [(Mf hg hk).1 c]
     simp [d])
  rw [List.length_cons,show k+(l.length+1)=k+1+l.length by omega]
  exact⟨s',c1,c2,c3⟩
theorem Ow (r:Rect) (x y:Int):hasB [r] x y=oO x y r:=by simp [hasB]
def sN (zs:List Zone) (k:Nat) (x y:Int):Prop:=Ni zs x y k/\∀i,i<zs.length->Ni zs x y i->¬cov zs i k
end Go.Proofs.YtnkgapmhkhcanaaGreatDoor.Law

