/-
  THE PLAIN LAW (part 2).
-/
import Derived.Test.YtjhcehhmdmbleaaGreatDoorPl1
import Derived.Test.YtjhcehhmdmbleaaGreatDoorDefs
open Go Go.Eng
namespace Go.Proofs.YtjhcehhmdmbleaaGreatDoor.Law
set_option linter.unusedVariables false
set_option linter.unusedSimpArgs false
def oH (n lo hi:Int):Bool:=decide (n < lo) || decide (n > hi)
theorem uJ (n lo hi:Int):aO n lo hi=some (oH n lo hi):=by
 unfold aO oH
 cases decide (n < lo) <;> cases decide (n > hi) <;> rfl
theorem in_eq (n lo hi:Int):qN n lo hi=some (!oH n lo hi):=by
 unfold qN oH
 have e1:decide (lo≤n) = !decide (n < lo):=by rw [Bool.eq_iff_iff]; simp
 have e2:decide (n≤hi) = !decide (n > hi):=by rw [Bool.eq_iff_iff]; simp
 rw [e1,e2]
 cases decide (n < lo) <;> cases decide (n > hi) <;> rfl
theorem G8 {n lo hi:Int} (h:oH n lo hi=false):lo≤n∧n≤hi:=by
 simp only [oH,Bool.or_eq_false_iff,decide_eq_false_iff_not]at h; omega
theorem jq {n lo hi:Int} (h:lo≤n∧n≤hi):oH n lo hi=false:=by
 simp only [oH,Bool.or_eq_false_iff,decide_eq_false_iff_not]; omega
def tN (r:Rect):Bool:=oH r.X (-100000) 100000 || oH r.Y (-100000) 100000 || oH r.W 1 (w64 (100000 - r.X)) || oH r.H 1 (w64 (100000 - r.Y))
theorem qj (r:Rect):dW r=some (bif tN r then 1 else 0):=by
 unfold dW tN
 simp only [uJ,Option.bind_some]
 cases oH r.X (-100000) 100000 <;> cases oH r.Y (-100000) 100000 <;> cases oH r.W 1 (w64 (100000 - r.X)) <;> cases oH r.H 1 (w64 (100000 - r.Y)) <;> rfl
theorem GD (r:Rect):mg r=some (bif tN r then 1 else 0):=by
 unfold mg tN
 simp only [in_eq,Option.bind_some,Bool.not_not]
 cases oH r.X (-100000) 100000 <;> cases oH r.Y (-100000) 100000 <;> cases oH r.W 1 (w64 (100000 - r.X)) <;> cases oH r.H 1 (w64 (100000 - r.Y)) <;> rfl
end Go.Proofs.YtjhcehhmdmbleaaGreatDoor.Law

open Go Go.Eng
namespace Go.Proofs.YtjhcehhmdmbleaaGreatDoor.Law
set_option linter.unusedVariables false
set_option linter.unusedSimpArgs false
theorem Fs {r:Rect} (h:tN r=false):fq r:=by
 unfold tN at h
 simp only [Bool.or_eq_false_iff]at h
 obtain ⟨⟨⟨h1,h2⟩,h3⟩,h4⟩:=h
 have h1:=G8 h1
 have h2:=G8 h2
 rw [bz (by omega)]at h3 h4
 have h3:=G8 h3
 have h4:=G8 h4
 exact⟨by omega,by omega,by omega,by omega,by omega⟩
theorem Fb (l m:List Rect) (h:l.length + m.length≤1000000):cK [l,m]=some (l++m):=by
 have g1:forL [l,m] (0:Int) (fun k x s=>dm k x s)=some (.go ((l.length + m.length:Nat):Int)):=by
  rw [bW (by simp)]
  simp only [forR,dm]
  have e1:w64 (0 + (l.length:Int))=(l.length:Int):=by rw [bz (by omega)]; omega
  have e2:w64 ((l.length:Int) + (m.length:Int))=((l.length + m.length:Nat):Int):=by rw [bz (by omega)]; omega
  have d1:decide ((l.length:Int) < 0)=false:=by simp
  have d2:decide (((l.length + m.length:Nat):Int) < 0)=false:=by simp; omega
  simp only [e1,e2,d1,d2,cond_false,Option.bind_some]
 have g2:∃ b,dC ((l.length + m.length:Nat):Int)=some b:=by
  unfold dC
  have d1:decide (((l.length + m.length:Nat):Int) < 0)=false:=by simp; omega
  have e1:w64 (((l.length + m.length:Nat):Int) - w64 (0 - 0))=((l.length + m.length:Nat):Int):=by
   rw [show w64 (0 - 0)=0 from rfl,bz (by omega)]; omega
  rw [d1,cond_false,e1]
  by_cases hp:((l.length + m.length:Nat):Int) > 0
  ·rw [decide_eq_true hp,cond_true]
   unfold zN
   rw [if_pos ⟨hp,by omega,by omega⟩]
   exact⟨true,rfl⟩
  ·rw [decide_eq_false hp,cond_false]; exact⟨false,rfl⟩
 obtain ⟨b,g2⟩:=g2
 have g3:forL [l,m] ([]:List Rect) (fun k x s=>di k x s)=some (.go (l++m)):=by
  rw [bW (by simp)]
  simp only [forR,di]
  rw [iE _ _ (by simp; omega)]
  simp only [Option.bind_some,List.nil_append]
  rw [iE _ _ (by omega)]; rfl
 unfold cK
 rw [g1,Option.bind_some]
 simp only [thenC]
 rw [g2,Option.bind_some,g3]; rfl
def iY (x y:Int) (r:Rect):Bool:=(decide (r.X≤x) && decide (x < r.X + r.W)) && (decide (r.Y≤y) && decide (y < r.Y + r.H))
def hasB (l:List Rect) (x y:Int):Bool:=l.any (iY x y)
theorem Cy (l:List Rect) (x y:Int):hasB l x y=true↔eF l x y:=by
 unfold hasB eF
 rw [List.any_eq_true]
 simp only [iY,Bool.and_eq_true,decide_eq_true_eq]
theorem xY {body:Nat→Rect→List Int→Option (Ctl (List Int) Unit)} (f:Rect→List Int) (hf:∀ r,(f r).length=2):∀ (l:List Rect) (k:Nat) (s:List Int),(∀ k r s,r∈l→s.length≤1000000→body k r s=some (.go (s++f r)))→s.length + 2 * l.length≤1000000→forR body l k s=some (.go (s++l.flatMap f))
 | [],k,s,_,_=>by simp [forR]
 | r::l,k,s,h,hl=>by
  simp only [List.length_cons]at hl
  have:=hf r
  rw [forR,h k r s (by simp) (by omega),Option.bind_some]
  simp only
  rw [xY f hf l (k + 1) _ (fun k r s hr=>h k r s (by simp [hr])) (by simp; omega)]
  simp
def yE (r:Rect):List Int := [r.Y,r.Y + r.H]
theorem Ed {f:Rect→List Int} (hf:∀ r,(f r).length=2):∀ l:List Rect,(l.flatMap f).length=2 * l.length
 | []=>rfl
 | r::l=>by rw [List.flatMap_cons,List.length_append,hf,Ed hf l,List.length_cons]; omega
theorem ME (e:List Int) (he:e.length≤1000000):∃ c,((dA e).bind fun r_22=>(jE r_22 e).bind fun _=>(bU r_22).bind fun r_25=>some r_25)=some c∧c.Pairwise (· < ·)∧(∀ x,x∈c↔x∈e)∧c.length≤e.length:=by
 obtain ⟨s,c,h1,h2,h3,h4,h5,h6⟩:=Nh e (by omega)
 have hsm:jE s e=some ():=by unfold jE; rw [if_pos h2]
 exact⟨c,by rw [h1,Option.bind_some,hsm,Option.bind_some,h3,Option.bind_some],h4,h5,h6⟩
end Go.Proofs.YtjhcehhmdmbleaaGreatDoor.Law

open Go Go.Eng
namespace Go.Proofs.YtjhcehhmdmbleaaGreatDoor.Law
set_option linter.unusedVariables false
set_option linter.unusedSimpArgs false
theorem Bb:∀ (l:List (Int×List Run)) (fr fr':Int),fC l [] fr=fC l [] fr'
 | [],_,_=>rfl
 | (y,R)::l,fr,fr'=>by
  simp only [fC,if_true]
  by_cases h : []=R
  ·rw [if_pos h,if_pos h]; exact Bb l fr fr'
  ·rw [if_neg h,if_neg h]
theorem HY (Rw:Int→List Run):∀ (ys:List Int),(∀ (j:Nat) (a b:Int),ys[j]? = some a→ys[j + 1]? = some b → ∀ y,a≤y→y < b→Rw y=Rw a)→(∀ y,(∀ a∈ys,a≤y)→Rw y = [])→ys.Pairwise (· < ·) → ∀ (y:Int) (band:List Run),xM (jv Rw ys) band y=match ys with | []=>Rw y | a::_=>bif decide (y < a)then band else Rw y
 | [],_,h2,_,y,band=>(h2 y (fun a ha=>by cases ha)).symm
 | [a],_,h2,_,y,band=>by
  simp only [jv,xM]
  by_cases h:y < a
  ·rw [decide_eq_true h]; rfl
  ·rw [decide_eq_false h,cond_false,cond_false,h2 y (fun b hb=>by rw [List.mem_singleton]at hb; omega)]
 | a::b::l,h1,h2,h3,y,band=>by
  obtain ⟨p1,p2⟩:=List.pairwise_cons.1 h3
  have hab:=p1 b (by simp)
  have ih:=HY Rw (b::l) (fun j c d hc hd=>h1 (j + 1) c d (by simpa using hc) (by simpa using hd)) (fun y hy=>h2 y (fun c hc=>by
   rcases List.mem_cons.1 hc with rfl | hc
   ·have:=hy b (by simp); omega
   ·exact hy c hc)) p2 y (Rw a)
  have hp:jv Rw (a::b::l)=(a,Rw a)::jv Rw (b::l):=rfl
  rw [hp,xM,ih]
  show (bif decide (y < a)then band else bif decide (y < b)then Rw a else Rw y)=bif decide (y < a)then band else Rw y
  by_cases h:y < a
  ·rw [decide_eq_true h]; rfl
  ·rw [decide_eq_false h,cond_false,cond_false]
   by_cases k:y < b
   ·rw [decide_eq_true k,cond_true,h1 0 a b rfl rfl y (by omega) k]
   ·rw [decide_eq_false k,cond_false]
theorem Ch (Rw:Int→List Run):∀ (ys:List Int) (lo:Int),(∀ y∈ys,lo < y)→ys.Pairwise (· < ·)→Mh lo (jv Rw ys)
 | [],_,_,_=>trivial
 | [a],lo,h,_=>⟨h a (by simp),fun _=>rfl,trivial⟩
 | a::b::l,lo,h,h3=>by
  obtain ⟨p1,p2⟩:=List.pairwise_cons.1 h3
  refine⟨h a (by simp),fun e => ?_,Ch Rw (b::l) a p1 p2⟩
  cases l <;> cases e
def Fits (Rw:Int→List Run) (ys:List Int):Prop :=
 ys.Pairwise (· < ·)∧(∀ y∈ys,-200000 < y)∧(∀ (j:Nat) (a b:Int),ys[j]? = some a→ys[j + 1]? = some b → ∀ y,a≤y→y < b→Rw y=Rw a)∧(∀ y,(∀ a∈ys,a≤y)→Rw y = [])∧(∀ y,(∀ a∈ys,y < a)→Rw y = [])
theorem Cn {Rw:Int→List Run} {ys:List Int} (h:Fits Rw ys) (fr:Int):kK (-200000) (fC (jv Rw ys) [] fr) ∧ ∀ y,rowAt (fC (jv Rw ys) [] fr) y=Rw y:=by
 obtain ⟨h1,h2,h3,h4,h5⟩:=h
 rw [Bb _ fr (-200000)]
 obtain ⟨c1,c2⟩:=Cm (band := []) (Ch Rw ys (-200000) h2 h1) (Int.le_refl _) (fun _=>rfl)
 refine⟨c1,fun y => ?_⟩
 rw [c2,HY Rw ys h3 h4 h1]
 by_cases k:y < -200000
 ·rw [decide_eq_true k,cond_true,h5 y (fun a ha=>by have:=h2 a ha; omega)]
 ·rw [decide_eq_false k,cond_false]
  cases ys with
  | nil=>rfl
  | cons a l =>
   simp only
   by_cases k:y < a
   ·rw [decide_eq_true k,cond_true]
    exact (h5 y (fun b hb=>by
     rcases List.mem_cons.1 hb with rfl | hb
     ·exact k
     ·have:=(List.pairwise_cons.1 h1).1 b hb; omega)).symm
   ·rw [decide_eq_false k,cond_false]
theorem Im {es:List Int} (hp:es.Pairwise (· < ·)) {i:Nat} {a b e:Int} (ha:es[i]? = some a) (hb:es[i + 1]? = some b) (he:e∈es):e≤a∨b≤e:=by
 obtain ⟨q,hq,rfl⟩:=List.getElem_of_mem he
 obtain ⟨la,ea⟩:=List.getElem?_eq_some_iff.1 ha
 obtain ⟨lb,eb⟩:=List.getElem?_eq_some_iff.1 hb
 rcases Nat.lt_trichotomy q i with k | k | k
 ·left; rw [← ea]; exact Int.le_of_lt ((List.pairwise_iff_getElem.1 hp) q i hq la k)
 ·left; subst k; rw [← ea]; exact Int.le_refl _
 ·right
  rcases Nat.eq_or_lt_of_le (show i + 1≤q by omega)with e | k2
  ·subst e; rw [← eb]; exact Int.le_refl _
  ·rw [← eb]; exact Int.le_of_lt ((List.pairwise_iff_getElem.1 hp) (i + 1) q lb hq k2)
theorem FK {ys:List Int} (hp:ys.Pairwise (· < ·)) {L:List Rect} (hL:∀ r∈L,r.Y∈ys∧r.Y + r.H∈ys) {j:Nat} {a b:Int} (ha:ys[j]? = some a) (hb:ys[j + 1]? = some b) {y:Int} (h1:a≤y) (h2:y < b) (x:Int):eF L x y↔eF L x a:=by
 constructor
 ·rintro ⟨r,hr,k3,k1,k2⟩
  obtain ⟨i1,i2⟩:=hL r hr
  refine⟨r,hr,k3,?_,by omega⟩
  rcases Im hp ha hb i1 with g | g <;> omega
 ·rintro ⟨r,hr,k3,k1,k2⟩
  obtain ⟨i1,i2⟩:=hL r hr
  refine⟨r,hr,k3,by omega,?_⟩
  rcases Im hp ha hb i2 with g | g <;> omega
theorem Fx {lo:Int} {R:List Run} (h:aU lo R) (he:∀ x,¬ mem x R):R = [] :=
 yI h (show aU lo [] from trivial) (fun x=>by simp [gJ,he x])
end Go.Proofs.YtjhcehhmdmbleaaGreatDoor.Law

open Go Go.Eng
namespace Go.Proofs.YtjhcehhmdmbleaaGreatDoor.Law
set_option linter.unusedVariables false
set_option linter.unusedSimpArgs false
def nu (f:Int→Int) (lo:Int):Nat→Int
 | 0=>0
 | n + 1=>nu f lo n + f (lo + n)
theorem mP {f g:Int→Int} {lo:Int}:∀ {n:Nat},(∀ x,f x=g x)→nu f lo n=nu g lo n
 | 0,_=>rfl
 | n + 1,h=>by rw [nu,nu,mP (n:=n) h,h]
theorem Cv (f g:Int→Int) (lo:Int):∀ n:Nat,nu (fun x=>f x + g x) lo n=nu f lo n + nu g lo n
 | 0=>rfl
 | n + 1=>by rw [nu,nu,nu,Cv f g lo n]; omega
theorem Ak (lo:Int):∀ n:Nat,nu (fun _=>0) lo n=0
 | 0=>rfl
 | n + 1=>by rw [nu,Ak lo n]; rfl
theorem CJ (c:Int) (f:Int→Int) (lo:Int):∀ n:Nat,nu (fun x=>c * f x) lo n=c * nu f lo n
 | 0=>by simp [nu]
 | n + 1=>by rw [nu,nu,CJ c f lo n,Int.mul_add]
def b01 (b:Bool):Int:=bif b then 1 else 0
theorem Gu (a b:Bool):b01 (a && b)=b01 b * b01 a:=by cases a <;> cases b <;> rfl
theorem DR {lo a b:Int} (h1:lo≤a) (h2:a≤b):∀ n:Nat,nu (fun x=>b01 (decide (a≤x) && decide (x < b))) lo n=min b (lo + n) - min a (lo + n)
 | 0=>by simp only [nu]; omega
 | n + 1=>by
  rw [nu,DR h1 h2 n]
  by_cases k1:a≤lo + (n:Int)
  ·by_cases k2:lo + (n:Int) < b
   ·rw [decide_eq_true k1,decide_eq_true k2]; show _ + 1=_; omega
   ·rw [decide_eq_true k1,decide_eq_false k2]; show _ + 0=_; omega
  ·rw [decide_eq_false k1]; show _ + 0=_; omega
def SS (lo:Int) (n:Nat) (f:Int→Int→Int):Int:=nu (fun y=>nu (fun x=>f x y) lo n) lo n
theorem sG {lo:Int} {n:Nat} {f g:Int→Int→Int} (h:∀ x y,f x y=g x y):SS lo n f=SS lo n g:=mP (fun y=>mP (fun x=>h x y))
theorem Nb (lo:Int) (n:Nat) (f g:Int→Int→Int):SS lo n (fun x y=>f x y + g x y)=SS lo n f + SS lo n g:=by
 unfold SS
 rw [← Cv]
 exact mP (fun y=>Cv _ _ _ _)
theorem SS_zero (lo:Int) (n:Nat):SS lo n (fun _ _=>0)=0:=by
 unfold SS
 rw [mP (g:=fun _=>0) (fun y=>Ak lo n),Ak]
def fI {α:Type} (f:α→Int):List α→Int
 | []=>0
 | x::l=>f x + fI f l
theorem zl {α:Type} (f:α→Int):∀ l m:List α,fI f (l++m)=fI f l + fI f m
 | [],m=>by simp [fI]
 | x::l,m=>by rw [List.cons_append,fI,fI,zl f l m]; omega
theorem kT {α:Type} {f g:α→Int}:∀ {l:List α},(∀ x∈l,f x=g x)→fI f l=fI g l
 | [],_=>rfl
 | x::l,h=>by rw [fI,fI,h x (by simp),kT (l:=l) (fun y hy=>h y (by simp [hy]))]
theorem qP {α β:Type} (f:β→Int) (g:α→β):∀ l:List α,fI f (l.map g)=fI (fun x=>f (g x)) l
 | []=>rfl
 | x::l=>by rw [List.map_cons,fI,fI,qP f g l]
theorem zX {α β:Type} (f:β→Int) (g:α→List β):∀ l:List α,fI f (l.flatMap g)=fI (fun x=>fI f (g x)) l
 | []=>rfl
 | x::l=>by rw [List.flatMap_cons,zl,fI,zX f g l]
theorem yF {α:Type} (c:Int) (f:α→Int):∀ l:List α,fI (fun x=>c * f x) l=c * fI f l
 | []=>by simp [fI]
 | x::l=>by rw [fI,fI,yF c f l,Int.mul_add]
theorem y9 {α:Type} (lo:Int) (n:Nat) (g:α→Int→Int→Int):∀ l:List α,fI (fun r=>SS lo n (g r)) l=SS lo n (fun x y=>fI (fun r=>g r x y) l)
 | []=>(SS_zero lo n).symm
 | r::l=>by
  rw [fI,y9 lo n g l,← Nb]; rfl
def ind (r:Rect) (x y:Int):Int:=b01 (iY x y r)
theorem Ib {lo:Int} {n:Nat} {r:Rect} (h1:lo≤r.X∧r.X + r.W≤lo + n) (h2:lo≤r.Y∧r.Y + r.H≤lo + n) (h3:0≤r.W) (h4:0≤r.H):SS lo n (ind r)=r.W * r.H:=by
 have e1:nu (fun x=>b01 (decide (r.X≤x) && decide (x < r.X + r.W))) lo n=r.W:=by rw [DR h1.1 (by omega)]; omega
 have e2:nu (fun y=>b01 (decide (r.Y≤y) && decide (y < r.Y + r.H))) lo n=r.H:=by rw [DR h2.1 (by omega)]; omega
 unfold SS ind iY
 rw [mP (g:=fun y=>r.W * b01 (decide (r.Y≤y) && decide (y < r.Y + r.H))) (fun y=>by
  rw [mP (g:=fun x=>b01 (decide (r.Y≤y) && decide (y < r.Y + r.H)) * b01 (decide (r.X≤x) && decide (x < r.X + r.W))) (fun x=>Gu _ _),CJ,e1,Int.mul_comm]),CJ,e2]
def ED (l:List Rect):Int:=fI (fun r=>r.W * r.H) l
open Classical in
noncomputable def P01 (p:Prop):Int:=if p then 1 else 0
theorem uW {p:Prop} (h:p):P01 p=1:=by unfold P01; rw [if_pos h]
theorem qh {p:Prop} (h:¬ p):P01 p=0:=by unfold P01; rw [if_neg h]
theorem wU {p q:Prop} (h:p↔q):P01 p=P01 q:=by rw [propext h]
theorem b01_P (b:Bool):b01 b=P01 (b=true):=by
 cases b
 ·rw [qh (by simp)]; rfl
 ·rw [uW rfl]; rfl
theorem Ko (x:Int):∀ (L:List Run) (lo:Int),aU lo L→fI (fun r=>b01 (decide (r.f_from≤x) && decide (x < r.f_to))) L=P01 (mem x L)
 | [],_,_=>by rw [qh (gJ x)]; rfl
 | r::L,lo,⟨h1,h2,h3⟩=>by
  rw [fI,Ko x L _ h3,b01_P]
  simp only [Bool.and_eq_true,decide_eq_true_eq]
  by_cases k:r.f_from≤x∧x < r.f_to
  ·rw [uW k,qh (fun m=>by have:=h3.gt m; omega),uW ((mem_cons _ _ _).2 (.inl k))]; rfl
  ·rw [qh k,Int.zero_add]
   exact wU (by rw [mem_cons]; simp [k])
theorem Ic (x y:Int):∀ (bs:List Band) (lo:Int),kK lo bs→(∀ b∈bs,∃ c,aU c b.row)→fI (fun r=>ind r x y) (fG bs)=P01 (mem x (rowAt bs y))
 | [],_,_,_=>by rw [show rowAt [] y = [] from rfl,qh (gJ x)]; rfl
 | p::bs,lo,⟨h1,h2,h3,h4,h5⟩,hc=>by
  have e:fG (p::bs)=p.row.map (xU p.a (p.b - p.a))++fG bs:=by simp [fG]
  rw [e,zl,qP,Ic x y bs _ h5 (fun b hb=>hc b (by simp [hb]))]
  have e2:∀ r:Run,ind (xU p.a (p.b - p.a) r) x y=b01 (decide (p.a≤y) && decide (y < p.b)) * b01 (decide (r.f_from≤x) && decide (x < r.f_to)):=fun r=>by
   unfold ind iY xU
   rw [Gu]
   simp only
   rw [show r.f_from + (r.f_to - r.f_from)=r.f_to by omega,show p.a + (p.b - p.a)=p.b by omega]
  rw [kT (fun r _=>e2 r),yF]
  obtain ⟨c,hcp⟩:=hc p (by simp)
  rw [Ko x p.row c hcp]
  by_cases k1:p.a≤y
  ·by_cases k2:y < p.b
   ·rw [yK k1 k2,wZ h5 k2,qh (gJ x),decide_eq_true k1,decide_eq_true k2]
    show 1 * _ + 0=_
    omega
   ·rw [qF (.inr (by omega)),decide_eq_false k2,Bool.and_false]
    show 0 * _ + _=_
    omega
  ·rw [qF (.inl (by omega)),decide_eq_false k1]
   show 0 * _ + _=_
   omega
theorem Jm {l m:List Rect} (hfl:∀ r∈l,fq r) {bs:List Band} (hb:kK (-200000) bs) (hr:∀ y,aU (-200000) (rowAt bs y)∧(∀ r∈rowAt bs y,Okr r) ∧ ∀ x,mem x (rowAt bs y)↔eF l x y ∧ ¬ eF m x y) :
  (∀ b∈bs,∃ y,b.row=rowAt bs y∧b.a≤y∧y < b.b ∧ -100000≤b.a∧b.b≤100000):=by
 have key:∀ (bs':List Band) (lo:Int),kK lo bs' → ∀ b∈bs',(∀ y,b.a≤y→y < b.b→rowAt bs' y=b.row)∧b.a < b.b∧b.row ≠ []:=by
  intro bs'
  induction bs' with
  | nil=>intro lo _ b hb; cases hb
  | cons p bs' ih =>
   rintro lo ⟨h1,h2,h3,h4,h5⟩ b hb
   rcases List.mem_cons.1 hb with rfl | hb
   ·exact⟨fun y k1 k2=>yK k1 k2,h2,h3⟩
   ·obtain ⟨i1,i2,i3⟩:=ih _ h5 b hb
    refine⟨fun y k1 k2 => ?_,i2,i3⟩
    have hge:p.b≤y:=by
     rcases Int.lt_or_le y p.b with k | k
     ·have e:=i1 y k1 k2
      rw [wZ h5 k]at e
      exact absurd e.symm i3
     ·exact k
    rw [qF (.inr hge)]; exact i1 y k1 k2
 intro b hbm
 obtain ⟨i1,i2,i3⟩:=key bs _ hb b hbm
 have at_:∀ y,b.a≤y→y < b.b → -100000≤y∧y < 100000:=fun y k1 k2=>by
  obtain ⟨q,hq⟩:=List.exists_mem_of_ne_nil _ i3
  obtain ⟨c1,c2,c3⟩:=hr y
  rw [i1 y k1 k2]at c1 c2 c3
  have:=c2 q hq
  have hm:mem q.f_from b.row:=⟨q,hq,Int.le_refl _,this.2.1⟩
  obtain ⟨⟨r,hr,_,k3⟩,_⟩:=(c3 _).1 hm
  obtain ⟨f1,f2,f3,f4⟩:=hfl r hr
  omega
 have a1:=at_ b.a (Int.le_refl _) i2
 have a2:=at_ (b.b - 1) (by omega) (by omega)
 exact⟨b.a,(i1 b.a (Int.le_refl _) i2).symm,Int.le_refl _,i2,by omega,by omega⟩
theorem rV {l m:List Rect} (hfl:∀ r∈l,fq r) {bs:List Band} (hb:kK (-200000) bs) (hr:∀ y,aU (-200000) (rowAt bs y)∧(∀ r∈rowAt bs y,Okr r) ∧ ∀ x,mem x (rowAt bs y)↔eF l x y ∧ ¬ eF m x y) :
  (∀ r∈fG bs,fq r)∧(∀ x y,fI (fun r=>ind r x y) (fG bs)=P01 (eF l x y ∧ ¬ eF m x y)) ∧ ∀ n:Nat,n=200000→ED (fG bs)=SS (-100000) n (fun x y=>P01 (eF l x y ∧ ¬ eF m x y)):=by
 have hba:=Jm hfl hb hr
 have hfine:∀ r∈fG bs,fq r:=by
  intro r hrm
  obtain ⟨b,hb',hr'⟩:=List.mem_flatMap.1 hrm
  obtain ⟨q,hq,rfl⟩:=List.mem_map.1 hr'
  obtain ⟨y,e,k1,k2,k3,k4⟩:=hba b hb'
  have ho:=(hr y).2.1 q (by rw [← e]; exact hq)
  unfold Okr at ho
  refine⟨?_,?_,?_,?_⟩
  ·show -100000≤q.f_from∧q.f_from≤100000; omega
  ·show -100000≤b.a∧b.a≤100000; omega
  ·show 1≤q.f_to - q.f_from∧q.f_from + (q.f_to - q.f_from)≤100000; omega
  ·show 1≤b.b - b.a∧b.a + (b.b - b.a)≤100000; omega
 have hind:∀ x y,fI (fun r=>ind r x y) (fG bs)=P01 (eF l x y ∧ ¬ eF m x y):=fun x y=>by
  rw [Ic x y bs _ hb (fun b hb'=>by
   obtain ⟨y,e,_⟩:=hba b hb'
   exact⟨_,by rw [e]; exact (hr y).1⟩)]
  exact wU ((hr y).2.2 x)
 refine⟨hfine,hind,fun n hn => ?_⟩
 unfold ED
 rw [kT (g:=fun r=>SS (-100000) n (ind r)) (fun r hr'=>by
  obtain ⟨f1,f2,f3,f4⟩:=hfine r hr'
  rw [Ib (by omega) (by omega) (by omega) (by omega)]),y9]
 exact sG hind
end Go.Proofs.YtjhcehhmdmbleaaGreatDoor.Law

open Go Go.Eng
namespace Go.Proofs.YtjhcehhmdmbleaaGreatDoor.Law
set_option linter.unusedVariables false
set_option linter.unusedSimpArgs false
theorem zM {α:Type} [BEq α] [LawfulBEq α]:∀ (l m:List α),l.Nodup→(∀ x∈l,x∈m)→l.length≤m.length
 | [],_,_,_=>Nat.zero_le _
 | x::l,m,hd,hs=>by
  obtain ⟨h1,h2⟩:=List.nodup_cons.1 hd
  have hx:=hs x (by simp)
  have:=zM l (m.erase x) h2 (fun y hy=>(List.mem_erase_of_ne (fun e=>h1 (by rw [← e]; exact hy))).2 (hs y (by simp [hy])))
  have h3:=List.length_erase_of_mem hx
  have h4:=List.length_pos_of_mem hx
  simp only [List.length_cons]; omega
theorem Gp (r:Rect) (x y:Int):ind r x y=0∨ind r x y=1:=by
 unfold ind b01
 cases iY x y r
 ·exact .inl rfl
 ·exact .inr rfl
theorem KD {r:Rect} {x y:Int} (h:iY x y r=true):ind r x y=1:=by unfold ind; rw [h]; rfl
theorem Ng {r:Rect} {x y:Int} (h:iY x y r=false):ind r x y=0:=by unfold ind; rw [h]; rfl
def gZ (l:List Rect) (x y:Int):Int:=fI (fun r=>ind r x y) l
theorem vO (x y:Int):∀ l:List Rect,0≤gZ l x y
 | []=>Int.le_refl _
 | r::l=>by
  have:=vO x y l
  unfold gZ at *
  rw [fI]
  rcases Gp r x y with h | h <;> omega
theorem nI (l:List Rect) (x y:Int):eF l x y ↔ ∃ r∈l,iY x y r=true:=by
 rw [← Cy,hasB,List.any_eq_true]
theorem yY {x y:Int}:∀ {l:List Rect},eF l x y→1≤gZ l x y
 | [],h=>by rw [nI]at h; obtain ⟨r,hr,_⟩:=h; cases hr
 | r::l,h=>by
  have h0:=vO x y l
  unfold gZ at *
  rw [fI]
  rw [nI]at h
  obtain ⟨q,hq,hh⟩:=h
  rcases List.mem_cons.1 hq with rfl | hq
  ·rw [KD hh]; omega
  ·have:=yY (l:=l) ((nI _ _ _).2 ⟨q,hq,hh⟩)
   unfold gZ at this
   rcases Gp r x y with h | h <;> omega
theorem Aa {x y:Int}:∀ {l:List Rect},¬ eF l x y→gZ l x y=0
 | [],_=>rfl
 | r::l,h=>by
  unfold gZ
  rw [fI]
  have h1:iY x y r=false:=by
   cases hh:iY x y r with
   | false=>rfl
   | true=>exact absurd ((nI _ _ _).2 ⟨r,by simp,hh⟩) h
  have h2:=Aa (l:=l) (fun k=>h (by
   obtain ⟨q,hq,hh⟩:=(nI _ _ _).1 k
   exact (nI _ _ _).2 ⟨q,by simp [hq],hh⟩))
  unfold gZ at h2
  rw [Ng h1,h2]; rfl
theorem MJ {l:List Rect} {x y:Int} (h:gZ l x y≤1):gZ l x y=P01 (eF l x y):=by
 by_cases k:eF l x y
 ·rw [uW k]; have:=yY k; omega
 ·rw [qh k,Aa k]
theorem row_nodup (y:Int):∀ l:List Rect,(∀ x,gZ l x y≤1)→(∀ r∈l,1≤r.W)→((l.filter (covers y)).map (·.X)).Nodup
 | [],_,_=>List.nodup_nil
 | r::l,h,hw=>by
  have h':∀ x,gZ l x y≤1:=fun x=>by
   have:=h x
   unfold gZ at *
   rw [fI]at this
   rcases Gp r x y with k | k <;> omega
  have ih:=row_nodup y l h' (fun q hq=>hw q (by simp [hq]))
  rw [List.filter_cons]
  cases hc:covers y r with
  | false=>exact ih
  | true =>
   simp only [if_true,List.map_cons]
   refine List.nodup_cons.2 ⟨fun hm => ?_,ih⟩
   obtain ⟨q,hq,he⟩:=List.mem_map.1 hm
   obtain ⟨q1,q2⟩:=List.mem_filter.1 hq
   have hwr:=hw r (by simp)
   have hwq:=hw q (by simp [q1])
   have e1:iY r.X y r=true:=by
    unfold iY; unfold covers at hc
    rw [hc,decide_eq_true (Int.le_refl _),decide_eq_true (show r.X < r.X + r.W by omega)]; rfl
   have e2:iY r.X y q=true:=by
    unfold iY; unfold covers at q2
    rw [q2,← he,decide_eq_true (Int.le_refl _),decide_eq_true (show q.X < q.X + q.W by omega)]; rfl
   have h1:=h r.X
   have h2:=yY (l:=l) ((nI _ _ _).2 ⟨q,q1,e2⟩)
   unfold gZ at h1 h2
   rw [fI,KD e1]at h1
   omega
theorem yx (x y:Int):∀ l:List Rect,l.Pairwise (fun a b => ∀ x y,¬ (iY x y a=true∧iY x y b=true))→gZ l x y≤1
 | [],_=>by show (0:Int)≤1; omega
 | r::l,h=>by
  obtain ⟨h1,h2⟩:=List.pairwise_cons.1 h
  have ih:=yx x y l h2
  have h0:=vO x y l
  cases hh:iY x y r with
  | false =>
   unfold gZ at *
   rw [fI,Ng hh]; omega
  | true =>
   have:¬ eF l x y:=fun k=>by
    obtain ⟨q,hq,hq2⟩:=(nI _ _ _).1 k
    exact h1 q hq x y ⟨hh,hq2⟩
   have:=Aa this
   unfold gZ at *
   rw [fI,KD hh]; omega
theorem EX:∀ (bs:List Band) (lo:Int),kK lo bs → ∀ b∈bs,(∀ y,b.a≤y→y < b.b→rowAt bs y=b.row)∧b.a < b.b∧b.row ≠ []
 | [],_,_,b,hb=>by cases hb
 | p::bs,lo,⟨h1,h2,h3,h4,h5⟩,b,hb=>by
  rcases List.mem_cons.1 hb with rfl | hb
  ·exact⟨fun y k1 k2=>yK k1 k2,h2,h3⟩
  ·obtain ⟨i1,i2,i3⟩:=EX bs _ h5 b hb
   refine⟨fun y k1 k2 => ?_,i2,i3⟩
   have hge:p.b≤y:=by
    rcases Int.lt_or_le y p.b with k | k
    ·have e:=i1 y k1 k2
     rw [wZ h5 k]at e
     exact absurd e.symm i3
    ·exact k
   rw [qF (.inr hge)]; exact i1 y k1 k2
theorem DI {bs:List Band} {lo:Int} (h:kK lo bs) {r:Rect} (hr:r∈fG bs) {y:Int} (h1:r.Y≤y) (h2:y < r.Y + r.H):∃ q∈rowAt bs y,r.X=q.f_from∧r.X + r.W=q.f_to:=by
 obtain ⟨b,hb,hr⟩:=List.mem_flatMap.1 hr
 obtain ⟨q,hq,rfl⟩:=List.mem_map.1 hr
 obtain ⟨i1,i2,i3⟩:=EX bs lo h b hb
 have e:b.a + (b.b - b.a)=b.b:=by omega
 refine⟨q,?_,rfl,by show q.f_from + (q.f_to - q.f_from)=q.f_to; omega⟩
 rw [i1 y h1 (by have:y < b.a + (b.b - b.a):=h2; omega)]; exact hq
theorem yo:∀ {L:List Run} {lo:Int},aU lo L → ∀ q∈L,¬ mem (q.f_from - 1) L
 | [],_,_,q,hq=>by cases hq
 | r::L,lo,⟨h1,h2,h3⟩,q,hq=>by
  rw [mem_cons]
  rcases List.mem_cons.1 hq with rfl | hq
  ·rintro (k | k)
   ·omega
   ·have:=h3.gt k; omega
  ·have h4:=h3.lo q hq
   rintro (k | k)
   ·omega
   ·exact yo h3 q hq k
def dB (a b:Rect):Rect×Bool :=
 bif decide (min (a.X + a.W) (b.X + b.W) - max a.X b.X≤0) || decide (min (a.Y + a.H) (b.Y + b.H) - max a.Y b.Y≤0)then (⟨0,0,0,0⟩,false)
 else (⟨max a.X b.X,max a.Y b.Y,min (a.X + a.W) (b.X + b.W) - max a.X b.X,min (a.Y + a.H) (b.Y + b.H) - max a.Y b.Y⟩,true)
def Bnd (r:Rect):Prop:=(-100000≤r.X∧r.X≤100000)∧(-100000≤r.Y∧r.Y≤100000)∧(0≤r.W∧r.X + r.W≤100000)∧0≤r.H∧r.Y + r.H≤100000
theorem minI_eq (a b:Int):eZ a b=min a b:=by unfold eZ; split <;> omega
theorem fq.bnd {r:Rect} (h:fq r):Bnd r:=by unfold fq at h; unfold Bnd; omega
theorem JF {a b:Rect} (h:(dB a b).2=false) (x y:Int):¬ (iY x y a=true∧iY x y b=true):=by
 unfold dB at h
 cases hc:decide (min (a.X + a.W) (b.X + b.W) - max a.X b.X≤0) || decide (min (a.Y + a.H) (b.Y + b.H) - max a.Y b.Y≤0)with
 | false=>rw [hc]at h; cases h
 | true =>
  simp only [Bool.or_eq_true,decide_eq_true_eq]at hc
  simp only [iY,Bool.and_eq_true,decide_eq_true_eq]
  omega
theorem Mi (a b:Rect) (x y:Int):ind (dB a b).1 x y=ind a x y * ind b x y:=by
 have e:iY x y (dB a b).1=(iY x y a && iY x y b):=by
  unfold dB
  cases hc:decide (min (a.X + a.W) (b.X + b.W) - max a.X b.X≤0) || decide (min (a.Y + a.H) (b.Y + b.H) - max a.Y b.Y≤0)with
  | false =>
   simp only [Bool.or_eq_false_iff,decide_eq_false_iff_not]at hc
   rw [Bool.eq_iff_iff]
   simp only [cond_false,iY,Bool.and_eq_true,decide_eq_true_eq]
   omega
  | true =>
   simp only [Bool.or_eq_true,decide_eq_true_eq]at hc
   rw [Bool.eq_iff_iff]
   simp only [cond_true,iY,Bool.and_eq_true,decide_eq_true_eq]
   omega
 unfold ind
 rw [e,Gu,Int.mul_comm]
theorem EZ {a b:Rect} (ha:Bnd a) (hb:Bnd b):Bnd (dB a b).1:=by
 unfold dB
 cases hc:decide (min (a.X + a.W) (b.X + b.W) - max a.X b.X≤0) || decide (min (a.Y + a.H) (b.Y + b.H) - max a.Y b.Y≤0)with
 | false =>
  simp only [Bool.or_eq_false_iff,decide_eq_false_iff_not]at hc
  unfold Bnd at *
  simp only [cond_false]; omega
 | true=>unfold Bnd; simp only [cond_true]; omega
theorem Jf (a:Rect):(dB a ⟨0,0,0,0⟩).2=false:=by
 unfold dB
 have:decide (min (a.X + a.W) ((0:Int) + 0) - max a.X 0≤0)=true:=by rw [decide_eq_true_eq]; omega
 simp only [this,Bool.true_or,cond_true]
theorem GZ {a b:Rect} (ha:Bnd a) (hb:Bnd b):jf a b=some (dB a b):=by
 unfold Bnd at *
 unfold jf dB
 rw [bz (n:=a.X + a.W) (by omega),bz (n:=a.Y + a.H) (by omega),bz (n:=b.X + b.W) (by omega),bz (n:=b.Y + b.H) (by omega)]
 simp only [minI_eq,BP]
 rw [bz (n:=min (a.X + a.W) (b.X + b.W) - max a.X b.X) (by omega),bz (n:=min (a.Y + a.H) (b.Y + b.H) - max a.Y b.Y) (by omega)]
 cases decide (min (a.X + a.W) (b.X + b.W) - max a.X b.X≤0) <;> cases decide (min (a.Y + a.H) (b.Y + b.H) - max a.Y b.Y≤0) <;> rfl
theorem Hz {r:Rect} (h:Bnd r) (n:Nat) (hn:n=200000):SS (-100000) n (ind r)=r.W * r.H:=by
 unfold Bnd at h
 exact Ib (by omega) (by omega) (by omega) (by omega)
end Go.Proofs.YtjhcehhmdmbleaaGreatDoor.Law

open Go Go.Eng
namespace Go.Proofs.YtjhcehhmdmbleaaGreatDoor.Law
set_option linter.unusedVariables false
set_option linter.unusedSimpArgs false
theorem L6 (l:List Rect) (y:Int) (h:∀ r∈l,fq r) (hl:(pU l y).length≤12) (hL:l.length≤100000):∃ R,dE l y=some R∧aU (-200000) R∧(∀ x,mem x R↔eF l x y)∧R.length≤(pU l y).length ∧ ∀ r∈R,Okr r:=by
 have hb:=Gb y h
 obtain ⟨s,h1,h2,h3⟩:=D8 (pU l y) (by omega) hb
 obtain ⟨R,k1,k2,k3,k4,k5⟩:=qB s 0 [] (fun r hr=>hb r (h2.mem_iff.1 hr)) (fun o ho=>by cases ho) h3 (by rw [h2.length_eq]; simp; omega) trivial (fun o ho=>by cases ho)
 have hsm:jE s (pU l y)=some ():=by unfold jE; rw [if_pos h2.length_eq]
 refine⟨R,?_,k2,fun x => ?_,by rw [h2.length_eq]at k4; simp at k4; omega,k5⟩
 ·unfold dE
  rw [bW (by omega),wV y l 0 [] h (by simp; omega),Option.bind_some]
  simp only [List.nil_append,thenC]
  rw [h1,Option.bind_some,hsm,Option.bind_some,bW (by rw [h2.length_eq]; omega),k1]; rfl
 ·rw [k3,← DN]
  simp only [gJ,false_or]
  unfold mem
  exact⟨fun⟨r,hr,k⟩=>⟨r,h2.mem_iff.1 hr,k⟩,fun⟨r,hr,k⟩=>⟨r,h2.mem_iff.2 hr,k⟩⟩
theorem FP (l m:List Rect) (a0 c0:Nat) (ha0:a0≤12) (hc0:c0≤12) (hfl:∀ r∈l,fq r) (hfm:∀ r∈m,fq r) (h1:∀ y,(pU l y).length≤a0) (h2:m.length≤c0) (h3:l.length≤480) :
  ∃ bs:List Band,dw l m=some (fG bs)∧(fG bs).length≤(2 * (l.length + m.length) + 1) * (a0 * (c0 + 1))∧kK (-200000) bs∧(∀ y,aU (-200000) (rowAt bs y)∧(∀ r∈rowAt bs y,Okr r) ∧ ∀ x,mem x (rowAt bs y)↔eF l x y ∧ ¬ eF m x y):=by
 have hB:a0 * (c0 + 1)≤12 * 13:=Nat.mul_le_mul ha0 (by omega)
 have hlm:∀ r∈l++m,fq r:=fun r hr=>by
  rcases List.mem_append.1 hr with hr | hr
  ·exact hfl r hr
  ·exact hfm r hr
 have hlen:(l++m).length≤492:=by simp; omega
 obtain ⟨ys,y1,y2,y3,y4⟩:=ME ((l++m).flatMap yE) (by rw [Ed (fun _=>rfl)]; omega)
 rw [Ed (fun _=>rfl)]at y4
 have ep:forL (l++m) ([]:List Int) (fun k x s=>fE k x s)=some (.go ((l++m).flatMap yE)):=by
  rw [bW (by omega),xY yE (fun _=>rfl) (l++m) 0 [] (fun k r s hr hs=>by
   obtain ⟨f1,f2,f3,f4⟩:=hlm r hr
   unfold fE
   rw [bz (by omega),iE _ _ (by simp; omega)]; rfl) (by simp at hlen ⊢; omega),List.nil_append]
 have inY:∀ r∈l++m,r.Y∈ys∧r.Y + r.H∈ys:=fun r hr=>⟨(y3 _).2 (List.mem_flatMap.2 ⟨r,hr,by simp [yE]⟩),(y3 _).2 (List.mem_flatMap.2 ⟨r,hr,by simp [yE]⟩)⟩
 have hby:∀ y∈ys,Bd y:=fun y hy=>by
  obtain ⟨r,hr,hy⟩:=List.mem_flatMap.1 ((y3 y).1 hy)
  obtain ⟨f1,f2,f3,f4⟩:=hlm r hr
  simp only [yE,List.mem_cons,List.not_mem_nil,or_false]at hy
  unfold Bd; omega
 have rows:∀ y:Int,∃ R:List Run,((dE l y).bind fun r_45=>(dE m y).bind fun r_47=>(iG r_45 r_47).bind fun r_49=>some r_49)=some R∧aU (-200000) R∧(∀ x,mem x R↔eF l x y ∧ ¬ eF m x y)∧(∀ r∈R,Okr r)∧R.length≤a0 * (c0 + 1):=by
  intro y
  obtain ⟨A,a1,a2,a3,a4,a5⟩:=L6 l y hfl (by have:=h1 y; omega) (by omega)
  obtain ⟨C,b1,b2,b3,b4,b5⟩:=KF m y hfm (by omega)
  have a4':A.length≤a0:=Nat.le_trans a4 (h1 y)
  obtain ⟨R,r1,r2,r3,r4,r5⟩:=KH A C a2 b2 a5 (by omega) (by omega)
  exact⟨R,by rw [a1,Option.bind_some,b1,Option.bind_some,r1,Option.bind_some],r2,fun x=>by rw [r3,a3,b3],r5,Nat.le_trans r4 (Nat.mul_le_mul a4' (by omega))⟩
 obtain ⟨Rw,hRw⟩:=Classical.axiomOfChoice rows
 have hcong:∀ y y':Int,(∀ x,(eF l x y ∧ ¬ eF m x y)↔(eF l x y' ∧ ¬ eF m x y'))→Rw y=Rw y':=fun y y' h=>by
  obtain ⟨_,c1,c2,_⟩:=hRw y
  obtain ⟨_,d1,d2,_⟩:=hRw y'
  exact yI c1 d1 (fun x=>by rw [c2,d2]; exact h x)
 have hnone:∀ y:Int,(∀ x,¬ eF l x y)→Rw y = []:=fun y h=>by
  obtain ⟨_,c1,c2,_⟩:=hRw y
  exact Fx c1 (fun x hx=>h x ((c2 x).1 hx).1)
 have fY:Fits Rw ys:=by
  have p3:∀ r∈l,r.Y∈ys∧r.Y + r.H∈ys:=fun r hr=>inY r (by simp [hr])
  have p4:∀ r∈m,r.Y∈ys∧r.Y + r.H∈ys:=fun r hr=>inY r (by simp [hr])
  refine⟨y2,fun y hy=>by have:=hby y hy; unfold Bd at this; omega,fun j a b ha hb y h1 h2=>hcong _ _ (fun x => ?_),fun y hy=>hnone y ?_,fun y hy=>hnone y ?_⟩
  ·exact and_congr (FK y2 p3 ha hb h1 h2 x) (not_congr (FK y2 p4 ha hb h1 h2 x))
  ·rintro x ⟨r,hr,_,k1,k2⟩
   have:=hy _ (p3 r hr).2; omega
  ·rintro x ⟨r,hr,_,k1,k2⟩
   have:=hy _ (p3 r hr).1; omega
 have hreg:dw l m=(forL ys (([]:List Rect),([]:List Run),(0:Int)) (fun k x s=>dz ys l m k x s)).bind fun o_38=>thenC o_38 (fun s_32=>some s_32.1) (fun _=>none):=by
  unfold dw
  rw [Fb l m (by simp at hlen; omega),Option.bind_some,ep,Option.bind_some]
  simp only [thenC]
  obtain ⟨s,c,g1,g2,g3,g4,g5,g6⟩:=Nh ((l++m).flatMap yE) (by rw [Ed (fun _=>rfl)]; omega)
  have hsm:jE s ((l++m).flatMap yE)=some ():=by unfold jE; rw [if_pos g2]
  rw [g1,Option.bind_some,hsm,Option.bind_some,g3,Option.bind_some]at y1
  simp only [Option.some.injEq]at y1
  subst y1
  rw [g1,Option.bind_some,hsm,Option.bind_some,g3,Option.bind_some]
 have progr:dw l m=some (fG (fC (jv Rw ys) [] 0))∧(fG (fC (jv Rw ys) [] 0)).length≤(2 * (l.length + m.length) + 1) * (a0 * (c0 + 1)):=by
  rw [hreg]
  cases hy0:ys with
  | nil=>exact⟨by rw [bW (by simp)]; rfl,Nat.zero_le _⟩
  | cons ya yl =>
   rw [← hy0]
   have hyl:0 < ys.length:=by rw [hy0]; simp
   have hm:(ys.length - 1 + 2) * (a0 * (c0 + 1))≤(2 * (l.length + m.length) + 1) * (a0 * (c0 + 1)):=Nat.mul_le_mul (by simp only [List.length_append]at y4; omega) (Nat.le_refl _)
   have hm2:(2 * (l.length + m.length) + 1) * (a0 * (c0 + 1))≤985 * (12 * 13):=Nat.mul_le_mul (by omega) hB
   obtain ⟨b2,f2,q1,q4⟩:=simP ys l m (a0 * (c0 + 1)) (by omega) (by omega) hby Rw (fun j y _ _=>by
    obtain ⟨r1,r2,r3,r5,r4⟩:=hRw y
    exact⟨r1,r5,r4⟩) (ys.length - 1) 0 ya [] [] 0 (by omega) (by rw [hy0]; rfl) (by unfold Bd; omega) (fun r hr=>by cases hr) (by simp) (by simp; omega)
   rw [List.drop_zero]at q1 q4
   exact⟨by rw [bW (by omega),q1]; rfl,by omega⟩
 obtain ⟨b1,b2⟩:=Cn fY 0
 refine⟨_,progr.1,progr.2,b1,fun y => ?_⟩
 obtain ⟨r1,r2,r3,r5,r4⟩:=hRw y
 rw [b2]
 exact⟨r2,r5,r3⟩
def NP (R:List Rect) (S:Int→Int→Prop):Prop := ∃ bs:List Band,R=fG bs∧kK (-200000) bs ∧ ∀ y,aU (-200000) (rowAt bs y)∧(∀ r∈rowAt bs y,Okr r) ∧ ∀ x,mem x (rowAt bs y)↔S x y
theorem NP.facts {R l m:List Rect} (h:NP R (fun x y=>eF l x y ∧ ¬ eF m x y)) (hfl:∀ r∈l,fq r) :
  (∀ r∈R,fq r)∧(∀ x y,gZ R x y=P01 (eF l x y ∧ ¬ eF m x y)) ∧ ∀ n:Nat,n=200000→ED R=SS (-100000) n (fun x y=>P01 (eF l x y ∧ ¬ eF m x y)):=by
 obtain ⟨bs,rfl,b1,b2⟩:=h
 exact rV hfl b1 b2
theorem P01_le (p:Prop):P01 p≤1:=by
 by_cases h:p
 ·rw [uW h]; omega
 ·rw [qh h]; omega
theorem NP.row {R l m:List Rect} (h:NP R (fun x y=>eF l x y ∧ ¬ eF m x y)) (hfl:∀ r∈l,fq r) (y:Int):(pU R y).length≤l.length + m.length:=by
 obtain ⟨f1,f2,_⟩:=h.facts hfl
 have hn:=row_nodup y R (fun x=>by rw [f2]; exact P01_le _) (fun r hr=>(f1 r hr).2.2.1.1)
 obtain ⟨bs,rfl,b1,b2⟩:=h
 have hm:∀ v∈((fG bs).filter (covers y)).map (·.X),v∈l.map (·.X)++m.map (fun r=>r.X + r.W):=by
  intro v hv
  obtain ⟨r,hr,rfl⟩:=List.mem_map.1 hv
  obtain ⟨hr1,hr2⟩:=List.mem_filter.1 hr
  have hy:r.Y≤y∧y < r.Y + r.H:=by
   simp only [covers,Bool.and_eq_true,decide_eq_true_eq]at hr2; exact hr2
  obtain ⟨q,hq,e1,e2⟩:=DI b1 hr1 hy.1 hy.2
  obtain ⟨c1,c2,c3⟩:=b2 y
  have hl:=yo c1 q hq
  have hlt:=(c1.lo q hq).2
  have hin:=(c3 q.f_from).1 ⟨q,hq,Int.le_refl _,hlt⟩
  rw [c3]at hl
  obtain ⟨⟨s,hs,s1,s2⟩,hnm⟩:=hin
  rw [e1]
  by_cases hm':eF m (q.f_from - 1) y
  ·obtain ⟨t,ht,t1,t2⟩:=hm'
   refine List.mem_append.2 (.inr (List.mem_map.2 ⟨t,ht,?_⟩))
   have:¬ (t.X≤q.f_from∧q.f_from < t.X + t.W):=fun k=>hnm ⟨t,ht,k,t2⟩
   omega
  ·refine List.mem_append.2 (.inl (List.mem_map.2 ⟨s,hs,?_⟩))
   have:¬ (s.X≤q.f_from - 1∧q.f_from - 1 < s.X + s.W):=fun k=>hl ⟨⟨s,hs,k,s2⟩,hm'⟩
   omega
 have:=zM _ _ hn hm
 simp only [List.length_map,List.length_append]at this
 unfold pU
 rw [List.length_map]; exact this
theorem rowB_le (l:List Rect) (y:Int):(pU l y).length≤l.length:=by unfold pU; rw [List.length_map]; exact List.length_filter_le _ _
theorem JC (l m:List Rect) (a0 c0:Nat) (ha0:a0≤12) (hc0:c0≤12) (hfl:∀ r∈l,fq r) (hfm:∀ r∈m,fq r) (h1:∀ y,(pU l y).length≤a0) (h2:m.length≤c0) (h3:l.length≤480) :
  ∃ R:List Rect,dw l m=some R∧R.length≤(2 * (l.length + m.length) + 1) * (a0 * (c0 + 1))∧NP R (fun x y=>eF l x y ∧ ¬ eF m x y):=by
 obtain ⟨bs,e,k,b1,b2⟩:=FP l m a0 c0 ha0 hc0 hfl hfm h1 h2 h3
 exact⟨_,e,k,bs,rfl,b1,b2⟩
theorem Ar {r:Rect} (h:fq r):tN r=false:=by
 unfold fq at h
 unfold tN
 rw [bz (n:=100000 - r.X) (by omega),bz (n:=100000 - r.Y) (by omega),jq (by omega),jq (by omega),jq (by omega),jq (by omega)]; rfl
end Go.Proofs.YtjhcehhmdmbleaaGreatDoor.Law

open Go Go.Eng
namespace Go.Proofs.YtjhcehhmdmbleaaGreatDoor.Law
set_option linter.unusedVariables false
set_option linter.unusedSimpArgs false
def Ok (s:Stream) (b:Int):Prop:=0≤s.f_at∧s.f_at≤b
theorem Ok.mono {s:Stream} {b c:Int} (h:Ok s b) (hc:b≤c):Ok s c:=⟨h.1,Int.le_trans h.2 hc⟩
theorem DW (x n:Int) (h:1≤n) (hn:n≤4611686018427387904):∃ r,rz x n=some r∧0≤r∧r < n:=by
 have h1:x.tmod n < n:=Int.tmod_lt_of_pos x (by omega)
 have h2 : -n < x.tmod n:=Int.lt_tmod_of_pos x (by omega)
 have hb:decide (n < 1)=false:=by simp; omega
 have hn0:n≠0:=by omega
 simp only [rz,hb,cond_false,Ht,if_neg hn0,Option.bind_some]
 cases hd:decide (x.tmod n < 0)with
 | true =>
  simp only [decide_eq_true_eq]at hd
  exact⟨_,rfl,by rw [bz (by omega)]; omega,by rw [bz (by omega)]; omega⟩
 | false =>
  simp only [decide_eq_false_iff_not]at hd
  exact⟨_,rfl,by omega,h1⟩
theorem GK (s:Stream) (n:Int) {b:Int} (hs:Ok s b) (hb:b≤1000000) (h:1≤n) (hn:n≤4611686018427387904):∃ r s',iL s n=some (r,s')∧0≤r∧r < n∧Ok s' (b + 1):=by
 obtain ⟨h0,h1⟩:=hs
 have e1:w64 (s.f_at + 1)=s.f_at + 1:=bz (by omega)
 have e2:w64 (s.f_at + 1 - 1)=s.f_at:=by rw [bz (by omega)]; omega
 simp only [iL,e1,e2]
 by_cases hl:s.L.length=0
 ·have:((s.L.length:Int) == 0)=true:=by simp [hl]
  simp only [this,cond_true]
  obtain ⟨r,hr,h2,h3⟩:=DW (w64 ((s.f_at + 1) * 7919)) n h hn
  exact⟨r,_,by rw [hr]; rfl,h2,h3,⟨by show 0≤s.f_at + 1; omega,by show s.f_at + 1≤b + 1; omega⟩⟩
 ·have hne:(s.L.length:Int)≠0:=by omega
  have:((s.L.length:Int) == 0)=false:=by simpa using hl
  simp only [this,cond_false,Ht,Ad,if_neg hne,Option.bind_some]
  have h2:0≤s.f_at.tmod s.L.length:=Int.tmod_nonneg _ h0
  have hp:(0:Int) < (s.L.length:Int):=by have:=Nat.pos_of_ne_zero hl; omega
  have h3:s.f_at.tmod s.L.length < s.L.length:=Int.tmod_lt_of_pos _ hp
  have hi:idx s.L (s.f_at.tmod s.L.length)=some s.L[(s.f_at.tmod s.L.length).toNat]:=by
   simp only [idx,if_pos h2]
   exact List.getElem?_eq_getElem (by omega)
  obtain ⟨r1,hr1,_,_⟩:=DW s.L[(s.f_at.tmod s.L.length).toNat] 1073741824 (by decide) (by decide)
  simp only [hi,hr1,Option.bind_some]
  generalize w64 (r1 + _)=y
  obtain ⟨r,hr,h4,h5⟩:=DW y n h hn
  exact⟨r,_,by rw [hr]; rfl,h4,h5,⟨by show 0≤s.f_at + 1; omega,by show s.f_at + 1≤b + 1; omega⟩⟩
theorem J7 (s:Stream) (n:Int) {b:Int} (hs:Ok s b) (hb:b≤1000000) (h:1≤n) (hn:n≤1000):∃ r s',jM s n=some (r,s')∧Ok s' (b + 1):=by
 obtain ⟨r,s',h1,_,_,h2⟩:=GK s n hs hb h (by omega)
 exact⟨r == 0,s',by simp only [jM,h1,Option.bind_some],h2⟩
theorem idx_mem {α:Type} {l:List α} {r:Int} (h0:0≤r) (h1:r < l.length):∃ y,idx l r=some y∧y∈l:=by
 refine⟨l[r.toNat]'(by omega),?_,List.getElem_mem _⟩
 simp only [idx,if_pos h0]
 exact List.getElem?_eq_getElem (by omega)
theorem zg (s:Stream) (l:List Int) {b:Int} (hs:Ok s b) (hb:b≤1000000) (h:1≤l.length) (hn:l.length≤1000):∃ r s',fQ s l=some (r,s')∧r∈l∧Ok s' (b + 1):=by
 obtain ⟨r,s',h1,h2,h3,h4⟩:=GK s l.length hs hb (by omega) (by omega)
 obtain ⟨y,hy,hm⟩:=idx_mem h2 h3
 exact⟨y,s',by simp only [fQ,h1,hy,Option.bind_some],hm,h4⟩
theorem pG (s:Stream) (lo hi:Int) {b:Int} (hs:Ok s b) (hb:b≤1000000) (h:lo≤hi) (h1 : -1000000000000≤lo) (h2:hi≤1000000000000):∃ r s',dG s lo hi=some (r,s')∧lo≤r∧r≤hi∧Ok s' (b + 1):=by
 have hd:decide (hi < lo)=false:=by simp; omega
 have e1:w64 (hi - lo)=hi - lo:=bz (by omega)
 have e2:w64 (hi - lo + 1)=hi - lo + 1:=bz (by omega)
 obtain ⟨r,s',k1,k2,k3,k4⟩:=GK s (hi - lo + 1) hs hb (by omega) (by omega)
 simp only [dG,hd,cond_false,e1,e2,k1,Option.bind_some]
 exact⟨_,s',rfl,by rw [bz (by omega)]; omega,by rw [bz (by omega)]; omega,k4⟩
end Go.Proofs.YtjhcehhmdmbleaaGreatDoor.Law

open Go Go.Eng
namespace Go.Proofs.YtjhcehhmdmbleaaGreatDoor.Law
set_option linter.unusedVariables false
set_option linter.unusedSimpArgs false
def Eu (b:UInt8):Bool:=decide (97≤b.toNat) && decide (b.toNat≤122)
def Iy (b:UInt8):Bool:=(decide (48≤b.toNat) && decide (b.toNat≤57)) || (b.toNat == 45) || (b.toNat == 95)
def okB (i:Nat) (b:UInt8):Bool:=Eu b || (decide (0 < i) && Iy b)
def gY (s:ByteArray) (i:Nat):UInt8:=s.data.toList.getD i 0
def nT (s:ByteArray):Bool:=decide (s.size≠0) && (decide (s.size≤40) && (List.range s.size).all fun i=>okB i (gY s i))
theorem Hy (s:ByteArray) (k:Nat) (h:k < s.size):nU s (k:Int)=some (gY s k):=by
 have h1:s[k]? = some s[k]:=by simp [h]
 have h2:gY s k=s[k]:=by
  have hl:k < s.data.toList.length:=by rw [← Go.Lib.size_eq]; exact h
  simp only [gY,List.getD_eq_getElem?_getD,List.getElem?_eq_getElem hl,Option.getD_some]
  simp
  rfl
 simp only [nU,if_pos (Int.natCast_nonneg k),Int.toNat_natCast,h1,h2]
theorem He (s:ByteArray) (k:Nat) (hs:s.size≤1000000000):jo s (k:Int)=some (if k < s.size then (bif okB k (gY s k)then .go ((k + 1:Nat):Int)else .ret false)else .brk (k:Int)):=by
 unfold jo
 by_cases h:k < s.size
 ·have hd:decide ((k:Int) < (s.size:Int))=true:=by simp; omega
  have hw:w64 ((k:Int) + 1)=((k + 1:Nat):Int):=by rw [bz (by omega)]; omega
  simp only [hd,cond_true,Hy s k h,Option.bind_some,if_pos h,hw]
  generalize gY s k=b
  simp only [okB,Eu,Iy]
  have e1:decide ((b.toNat:Int)≥97)=decide (97≤b.toNat):=decide_eq_decide.2 (by omega)
  have e2:decide ((b.toNat:Int)≤122)=decide (b.toNat≤122):=decide_eq_decide.2 (by omega)
  have e3:decide ((k:Int) > 0)=decide (0 < k):=decide_eq_decide.2 (by omega)
  have e4:decide ((b.toNat:Int)≥48)=decide (48≤b.toNat):=decide_eq_decide.2 (by omega)
  have e5:decide ((b.toNat:Int)≤57)=decide (b.toNat≤57):=decide_eq_decide.2 (by omega)
  have e6:((b.toNat:Int) == 45)=(b.toNat == 45):=by rw [Bool.eq_iff_iff]; simp; omega
  have e7:((b.toNat:Int) == 95)=(b.toNat == 95):=by rw [Bool.eq_iff_iff]; simp; omega
  rw [e1,e2,e3,e4,e5,e6,e7]
  cases decide (97≤b.toNat) <;> cases decide (b.toNat≤122) <;> cases decide (0 < k) <;> cases decide (48≤b.toNat) <;> cases decide (b.toNat≤57) <;> cases (b.toNat == 45) <;> cases (b.toNat == 95) <;> rfl
 ·have hd:decide ((k:Int) < (s.size:Int))=false:=by simp; omega
  simp only [hd,cond_false,if_neg h]
theorem DZ (s:ByteArray) (hs:s.size≤1000000000):∀ (n k:Nat),k + n=s.size→iterN (fun i=>jo s i) (n + 1) (k:Int)=some (bif (List.range' k n).all (fun j=>okB j (gY s j))then .go (s.size:Int)else .ret false)
 | 0,k,h=>by
  have hk:¬ k < s.size:=by omega
  simp only [iterN,He s k hs,if_neg hk,Option.bind_some,List.range'_zero,List.all_nil,cond_true]
  rw [show (k:Int)=s.size by omega]
 | n + 1,k,h=>by
  have hk:k < s.size:=by omega
  rw [iterN,He s k hs,if_pos hk,Option.bind_some,List.range'_succ,List.all_cons]
  cases okB k (gY s k)with
  | true=>simp only [cond_true,Bool.true_and]; exact DZ s hs n (k + 1) (by omega)
  | false=>rfl
theorem wD (s:ByteArray) (hs:s.size≤1000000000):dU s=some (nT s):=by
 have h:=iP (DZ s hs s.size 0 (by omega))
 unfold dU
 have h':jr (0:Int) (fun s_1=>jo s s_1)=_:=h
 rw [h',Option.bind_some,← List.range_eq_range']
 have e:decide ((s.size:Int)≤40)=decide (s.size≤40):=decide_eq_decide.2 (by omega)
 simp only [nT]
 cases (List.range s.size).all (fun i=>okB i (gY s i))with
 | true =>
  rw [cond_true,Od,sNe_nil,e,Bool.and_true]
  cases decide (s.size≠0) <;> rfl
 | false=>simp only [cond_false,L9,Bool.and_false]
def sN (t:ByteArray) (b:UInt8):Bool := !decide (ixB t (b.toNat:Int) < 0)
theorem only_L1 (s t:ByteArray) (k x:Nat) (h:k < s.size):mY s t k x ()=some (bif sN t (gY s k)then .go ()else .ret false):=by
 simp only [mY,Hy s k h,strings_IndexByte,dH,Option.bind_some,sN]
 cases decide (ixB t ((gY s k).toNat:Int) < 0) <;> rfl
theorem H9 (s t:ByteArray):∀ (xs:List Nat) (k:Nat),k + xs.length=s.size→forR (fun k x u=>mY s t k x u) xs k ()=some (bif (List.range' k xs.length).all (fun j=>sN t (gY s j))then .go ()else .ret false)
 | [],k,h=>rfl
 | x::xs,k,h=>by
  simp only [List.length_cons]at h ⊢
  have hk:k < s.size:=by omega
  rw [forR,only_L1 s t k x hk,Option.bind_some,List.range'_succ,List.all_cons]
  cases sN t (gY s k)with
  | true=>simp only [cond_true,Bool.true_and]; exact H9 s t xs (k + 1) (by omega)
  | false=>rfl
theorem K5 (s t:ByteArray) (hs:s.size≤1000000000):tF s t=some ((List.range s.size).all fun i=>sN t (gY s i)):=by
 unfold tF
 rw [Int.toNat_natCast,bW (by simp; omega),H9 s t _ 0 (by simp),Option.bind_some,List.length_range,← List.range_eq_range']
 cases (List.range s.size).all (fun i=>sN t (gY s i)) <;> rfl
def Fy:ByteArray:=⟨#[97,98,99,100,101,102,103,104,105,106,107,108,109,110,111,112,113,114,115,116,117,118,119,120,121,122]⟩
def Cu:ByteArray:=⟨#[97,98,99,100,101,102,103,104,105,106,107,108,109,110,111,112,113,114,115,116,117,118,119,120,121,122,48,49,50,51,52,53,54,55,56,57,45,95]⟩
theorem Fu:∀ n:Fin 256,sN Fy (UInt8.ofNat n.val)=Eu (UInt8.ofNat n.val)∧sN Cu (UInt8.ofNat n.val)=(Eu (UInt8.ofNat n.val) || Iy (UInt8.ofNat n.val)):=by decide +kernel
theorem IY (b:UInt8):sN Fy b=Eu b:=by
 have:=(Fu ⟨b.toNat,b.toNat_lt⟩).1
 simpa using this
theorem I4 (b:UInt8):sN Cu b=(Eu b || Iy b):=by
 have:=(Fu ⟨b.toNat,b.toNat_lt⟩).2
 simpa using this
theorem EW (s:ByteArray) (hs:s.size≤1000000000):wW s=some (nT s):=by
 unfold wW qN
 have e1:decide ((1:Int)≤(s.size:Int))=decide (s.size≠0):=decide_eq_decide.2 (by omega)
 have e2:decide ((s.size:Int)≤40)=decide (s.size≤40):=decide_eq_decide.2 (by omega)
 rw [e1,e2]
 by_cases h1:s.size≠0
 ·by_cases h2:s.size≤40
  ·have hsub:qZ s 0 1=some (s.extract 0 1):=by
    unfold qZ; rw [if_pos ⟨by omega,by omega,by decide,by show 1≤s.size; omega⟩]; rfl
   have hsz:(s.extract 0 1).size=1:=by simp [ByteArray.size_extract]; omega
   have hb:gY (s.extract 0 1) 0=gY s 0:=by
    obtain ⟨⟨l⟩⟩:=s
    simp only [gY]
    cases l with
    | nil=>exact absurd rfl h1
    | cons b l=>simp [ByteArray.extract,ByteArray.copySlice]
   simp only [decide_eq_true h1,decide_eq_true h2,cond_true,Option.bind_some,hsub]
   have o1:=K5 (s.extract 0 1) Fy (by omega)
   have o2:=K5 s Cu hs
   unfold Fy at o1
   unfold Cu at o2
   rw [o1,Option.bind_some,o2]
   have e3:(List.range (s.extract 0 1).size).all (fun i=>sN Fy (gY (s.extract 0 1) i))=Eu (gY s 0):=by
    rw [hsz]
    simp only [List.range_succ,List.range_zero,List.nil_append,List.all_cons,List.all_nil,Bool.and_true]
    rw [hb,IY]
   have e3':=e3
   unfold Fy at e3'
   rw [e3']
   have e4:∀ i,sN Cu (gY s i)=(Eu (gY s i) || Iy (gY s i)):=fun i=>I4 _
   have e5:nT s=(Eu (gY s 0) && (List.range s.size).all (fun i=>sN Cu (gY s i))):=by
    simp only [nT,decide_eq_true h1,decide_eq_true h2,Bool.true_and,e4]
    rw [Bool.eq_iff_iff]
    simp only [List.all_eq_true,List.mem_range,Bool.and_eq_true,okB,Bool.or_eq_true,decide_eq_true_eq]
    constructor
    ·intro h
     refine⟨?_,fun i hi=>(h i hi).imp id (fun h=>h.2)⟩
     rcases h 0 (by omega)with h | h
     ·exact h
     ·exact absurd h.1 (by omega)
    ·rintro ⟨h3,h4⟩ i hi
     by_cases e:i=0
     ·rw [e]; exact .inl h3
     ·exact (h4 i hi).imp id (fun h=>⟨by omega,h⟩)
   unfold Cu at e5
   rw [e5]
   cases Eu (gY s 0) <;> rfl
  ·simp only [decide_eq_true h1,decide_eq_false h2,cond_true,cond_false,Option.bind_some,nT,Bool.false_and,Bool.and_false]
 ·simp only [decide_eq_false h1,cond_false,Option.bind_some,nT,Bool.false_and]
theorem Kb {s:ByteArray} (h:nT s=true):s.size≠0:=by
 simp only [nT,Bool.and_eq_true,decide_eq_true_eq]at h
 exact h.1
end Go.Proofs.YtjhcehhmdmbleaaGreatDoor.Law

open Go Go.Eng
namespace Go.Proofs.YtjhcehhmdmbleaaGreatDoor.Law
set_option linter.unusedVariables false
set_option linter.unusedSimpArgs false
def uA:ByteArray:=⟨#[]⟩
def uZ {α:Type} (key:α→ByteArray) (l:List α) (k:Nat):ByteArray:=if k=0 then uA else match l[k - 1]? with | some y=>key y | none=>uA
def chk {α:Type} (key:α→ByteArray) (stp:ByteArray→α→Int):ByteArray→List α→Int
 | _,[]=>0
 | last,x::xs=>bif stp last x == 0 then chk key stp (key x) xs else stp last x
def La (e:Int):Ctl Unit Int:=bif e == 0 then .go ()else .ret e
theorem C8 {α:Type} {key:α→ByteArray} {stp:ByteArray→α→Int} {body:Nat→α→Unit→Option (Ctl Unit Int)} (l:List α):∀ (xs:List α) (k:Nat),l.drop k=xs→(∀ k x,l[k]? = some x→body k x ()=some (La (stp (uZ key l k) x))) →
  forR body xs k ()=some (La (chk key stp (uZ key l k) xs))
 | [],k,h,hb=>rfl
 | x::xs,k,h,hb=>by
  have hg:=nM h
  rw [forR,hb k x hg,Option.bind_some,chk]
  cases he:stp (uZ key l k) x == 0 with
  | true =>
   simp only [La,he,cond_true]
   rw [C8 l xs (k + 1) (aN h) hb]
   have:uZ key l (k + 1)=key x:=by simp [uZ,hg]
   rw [this]; rfl
  | false=>simp only [La,he,cond_false]
theorem Nn {α:Type} {l:List α} {k:Nat} {x:α} (h:l[k]? = some x) (hk:0 < k) (hl:l.length≤1000000000):∃ y,idx l (w64 ((k:Int) - 1))=some y∧l[k - 1]? = some y:=by
 have hlt:k < l.length:=(List.getElem?_eq_some_iff.1 h).1
 rw [bz (by omega),show (k:Int) - 1=((k - 1:Nat):Int) by omega,wN]
 exact⟨l[k - 1],List.getElem?_eq_getElem (by omega),List.getElem?_eq_getElem (by omega)⟩
theorem EU {α:Type} {key:α→ByteArray} {l:List α} {k:Nat} {x:α} {s:ByteArray} (h:l[k]? = some x) (hl:l.length≤1000000000) (hs:s.size≠0) :
  (bif decide ((k:Int) > 0)then (idx l (w64 ((k:Int) - 1))).bind fun y=>some (sLe s (key y))else some false)=some (sLe s (uZ key l k)):=by
 by_cases hk:0 < k
 ·obtain ⟨y,h1,h2⟩:=Nn h hk hl
  have hd:decide ((k:Int) > 0)=true:=by simp; omega
  simp only [hd,cond_true,h1,Option.bind_some,uZ,if_neg (show ¬ k=0 by omega),h2]
 ·have hk0:k=0:=by omega
  subst hk0
  simp only [uZ,if_pos,uA,sLe_nil,decide_eq_false hs]
  rfl
theorem MW {α:Type} {key:α→ByteArray} {stp:ByteArray→α→Int} {body:Nat→α→ByteArray→Option (Ctl ByteArray Int)}:∀ (xs:List α) (k:Nat) (last:ByteArray),(∀ k x last,x∈xs→body k x last=some (bif stp last x == 0 then .go (key x)else .ret (stp last x))) →
  ∃ last',forR body xs k last=some (bif chk key stp last xs == 0 then .go last' else .ret (chk key stp last xs))
 | [],k,last,hb=>⟨last,rfl⟩
 | x::xs,k,last,hb=>by
  rw [forR,hb k x last (by simp),Option.bind_some,chk]
  cases he:stp last x == 0 with
  | true=>exact MW xs (k + 1) (key x) (fun k y last hy=>hb k y last (by simp [hy]))
  | false =>
   refine⟨last,?_⟩
   simp only [cond_false,he]
def zm (n:Int):Bool:=oH n 1 20000
theorem LX (n:Int):jC n=some (!zm n):=by unfold jC; rw [uJ]; rfl
theorem KZ (n:Int):sK n=some (!zm n):=by unfold sK; rw [in_eq]; rfl
theorem JW (a b:Int):dY [a,b]=some (bif zm a || zm b then 1 else 0):=by
 unfold dY
 rw [bW (by simp)]
 simp only [forR,gN,LX,Option.bind_some,Bool.not_not]
 cases zm a <;> cases zm b <;> rfl
def tH (r:Rect) (w h:Int):Bool:=decide (r.X≥0) && (decide (r.Y≥0) && (decide (w64 (r.X + r.W)≤w) && decide (w64 (r.Y + r.H)≤h)))
theorem AQ (r:Rect) (w h:Int):gK r w h=some (tH r w h):=by
 unfold gK tH
 cases decide (r.X≥0) <;> cases decide (r.Y≥0) <;> cases decide (w64 (r.X + r.W)≤w) <;> rfl
theorem LB (r:Rect) (w h:Int):uO r w h=some (tH r w h):=AQ r w h
end Go.Proofs.YtjhcehhmdmbleaaGreatDoor.Law

open Go Go.Eng
namespace Go.Proofs.YtjhcehhmdmbleaaGreatDoor.Law
set_option linter.unusedVariables false
set_option linter.unusedSimpArgs false
def D9 (l:Layout) (last:ByteArray) (z:Zone):Int:=bif !nT z.Key then 5 else bif tN z.On then 1 else bif !tH z.On l.W l.H then 3 else bif oH z.Order 0 1000 then 1 else bif sLe z.Key last then 7 else 0
theorem I1 {l:Layout}:∀ (zs:List Zone) (last:ByteArray),chk (fun z:Zone=>z.Key) (D9 l) last zs=0→(∀ z∈zs,fq z.On∧tH z.On l.W l.H=true∧nT z.Key=true∧lt last z.Key)∧zs.Pairwise (fun a b=>lt a.Key b.Key)
 | [],_,_=>⟨fun z hz=>(by cases hz),List.Pairwise.nil⟩
 | x::zs,last,h=>by
  rw [chk]at h
  cases he:D9 l last x == 0 with
  | false=>rw [he,cond_false]at h; rw [h]at he; cases he
  | true =>
   rw [he,cond_true]at h
   obtain ⟨i1,i2⟩:=I1 zs _ h
   have he:=eq_of_beq he
   have hx:fq x.On∧tH x.On l.W l.H=true∧nT x.Key=true∧lt last x.Key:=by
    unfold D9 at he
    cases hk:nT x.Key with
    | false=>rw [hk]at he; cases he
    | true =>
     cases hb:tN x.On with
     | true=>rw [hk,hb]at he; cases he
     | false =>
      cases hi:tH x.On l.W l.H with
      | false=>rw [hk,hb,hi]at he; cases he
      | true =>
       cases ho:oH x.Order 0 1000 with
       | true=>rw [hk,hb,hi,ho]at he; cases he
       | false =>
        cases hl:sLe x.Key last with
        | true=>rw [hk,hb,hi,ho,hl]at he; cases he
        | false =>
         refine⟨Fs hb,rfl,rfl,?_⟩
         have:=BV x.Key last
         rw [hl]at this
         simp only [Bool.false_eq_true,false_iff,Classical.not_not]at this
         exact this
   refine⟨fun z hz => ?_,List.pairwise_cons.2 ⟨fun z hz=>(i1 z hz).2.2.2,i2⟩⟩
   rcases List.mem_cons.1 hz with rfl | hz
   ·exact hx
   ·obtain ⟨a,b,c,d⟩:=i1 z hz
    exact⟨a,b,c,lt_trans hx.2.2.2 d⟩
end Go.Proofs.YtjhcehhmdmbleaaGreatDoor.Law

open Go Go.Eng
namespace Go.Proofs.YtjhcehhmdmbleaaGreatDoor.Law
set_option linter.unusedVariables false
set_option linter.unusedSimpArgs false
def Lt (zs:List Zone) (x y:Int) (i:Nat):Prop := ∃ z,zs[i]? = some z∧iY x y z.On=true
def cov (zs:List Zone) (i k:Nat):Prop := ∃ a b,zs[i]? = some a∧zs[k]? = some b∧(b.Order < a.Order∨a.Order=b.Order∧k < i)
def FR (a b:Zone) (i k:Nat):Bool:=decide (b.Order < a.Order) || ((a.Order == b.Order) && decide (k < i))
theorem KR {zs:List Zone} {i k:Nat} {a b:Zone} (ha:zs[i]? = some a) (hb:zs[k]? = some b):cov zs i k↔FR a b i k=true:=by
 unfold cov FR
 simp only [Bool.or_eq_true,Bool.and_eq_true,decide_eq_true_eq,beq_iff_eq]
 constructor
 ·rintro ⟨a',b',h1,h2,h3⟩
  rw [ha]at h1; rw [hb]at h2
  simp only [Option.some.injEq]at h1 h2
  subst h1; subst h2
  exact h3
 ·exact fun h=>⟨a,b,ha,hb,h⟩
theorem Lx {zs:List Zone} {i k:Nat} {a b:Zone} (ha:zs[i]? = some a) (hb:zs[k]? = some b):mf zs (i:Int) (k:Int)=some (FR a b i k):=by
 unfold mf FR
 simp only [wN,ha,hb,Option.bind_some]
 have e:decide ((i:Int) > (k:Int))=decide (k < i):=decide_eq_decide.2 (by omega)
 have e2:decide (a.Order > b.Order)=decide (b.Order < a.Order):=rfl
 rw [e,e2]
 cases decide (b.Order < a.Order) <;> cases a.Order == b.Order <;> rfl
theorem cov_tot {zs:List Zone} {i k:Nat} {a b:Zone} (ha:zs[i]? = some a) (hb:zs[k]? = some b) (h:i≠k):cov zs i k∨cov zs k i:=by
 by_cases h1:b.Order < a.Order
 ·exact .inl ⟨a,b,ha,hb,.inl h1⟩
 ·by_cases h2:a.Order < b.Order
  ·exact .inr ⟨b,a,hb,ha,.inl h2⟩
  ·have h3:a.Order=b.Order:=by omega
   by_cases h4:k < i
   ·exact .inl ⟨a,b,ha,hb,.inr ⟨h3,h4⟩⟩
   ·exact .inr ⟨b,a,hb,ha,.inr ⟨h3.symm,by omega⟩⟩
theorem Ca (L:Layout) (kk:Nat) (zk:Zone) (hk:L.Zones[kk]? = some zk) (hl:L.Zones.length≤1000):∀ (l:List Zone) (k:Nat) (s:List Rect),L.Zones.drop k=l→s.length≤k→(∀ r,r∈s ↔ ∃ (i:Nat) (z:Zone),i < k∧L.Zones[i]? = some z∧cov L.Zones i kk∧r=z.On) →
  ∃ s',forR (fun k z s=>iH L kk k z s) l k s=some (.go s')∧s'.length≤k + l.length ∧ ∀ r,r∈s' ↔ ∃ (i:Nat) (z:Zone),i < k + l.length∧L.Zones[i]? = some z∧cov L.Zones i kk∧r=z.On
 | [],k,s,_,hs,hm=>⟨s,rfl,hs,hm⟩
 | z::l,k,s,h,hs,hm=>by
  have hg:=nM h
  have hlt:=oQ h
  have hB:iH L kk k z s=some (.go (s++bif FR z zk k kk then [z.On]else [])):=by
   unfold iH
   rw [Lx hg hk,Option.bind_some]
   cases FR z zk k kk with
   | true=>rw [cond_true,iE _ _ (by simp; omega)]; rfl
   | false=>simp
  rw [forR,hB]
  obtain ⟨s',c1,c2,c3⟩:=Ca L kk zk hk hl l (k + 1) (s++bif FR z zk k kk then [z.On]else []) (aN h) (by cases FR z zk k kk <;> simp <;> omega) (fun r=>by
   rw [List.mem_append,hm]
   constructor
   ·rintro (⟨i,z',a,b,c,d⟩ | hr)
    ·exact⟨i,z',by omega,b,c,d⟩
    ·cases hc:FR z zk k kk with
     | false=>rw [hc]at hr; cases hr
     | true =>
      rw [hc]at hr
      simp only [cond_true,List.mem_singleton]at hr
      exact⟨k,z,by omega,hg,(KR hg hk).2 hc,hr⟩
   ·rintro ⟨i,z',a,b,c,d⟩
    rcases Nat.lt_or_ge i k with g | g
    ·exact .inl ⟨i,z',g,b,c,d⟩
    ·have:i=k:=by omega
     subst this
     rw [hg]at b
     simp only [Option.some.injEq]at b
     subst b
     right
     rw [(KR hg hk).1 c]
     simp [d])
  rw [List.length_cons,show k + (l.length + 1)=k + 1 + l.length by omega]
  exact⟨s',c1,c2,c3⟩
theorem Nk (r:Rect) (x y:Int):hasB [r] x y=iY x y r:=by simp [hasB]
def qG (zs:List Zone) (k:Nat) (x y:Int):Prop:=Lt zs x y k ∧ ∀ i,i < zs.length→Lt zs x y i → ¬ cov zs i k
end Go.Proofs.YtjhcehhmdmbleaaGreatDoor.Law

