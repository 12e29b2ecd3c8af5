/-
  THE PLAIN LAW (part 3).
-/
import Derived.Test.YtjhcehhmdmbleaaGreatDoorPl2
import Derived.Test.YtjhcehhmdmbleaaGreatDoorDefs
open Go Go.Eng
namespace Go.Proofs.YtjhcehhmdmbleaaGreatDoor.Law
set_option linter.unusedVariables false
set_option linter.unusedSimpArgs false
def cZ (Rf:Nat→List Rect):List Zone→Nat→List Piece
 | [],_ => []
 | z::l,k=>(Rf k).map (fun r=>(⟨z.Key,r⟩:Piece))++cZ Rf l (k + 1)
theorem BZ (Rf:Nat→List Rect) (B:Nat):∀ (l:List Zone) (k:Nat),(∀ j,k≤j→j < k + l.length→(Rf j).length≤B)→(cZ Rf l k).length≤B * l.length
 | [],_,_=>Nat.zero_le _
 | z::l,k,h=>by
  have h1:=h k (Nat.le_refl _) (by simp)
  have h2:=BZ Rf B l (k + 1) (fun j a b=>h j (by omega) (by simp; omega))
  rw [cZ,List.length_append,List.length_map,List.length_cons,Nat.mul_succ]; omega
theorem FC (z:Zone) {body:Nat→Rect→List Piece→Option (Ctl (List Piece) Unit)}:∀ (l:List Rect) (k:Nat) (s:List Piece),(∀ k r s,s.length≤1000000→body k r s=some (.go (s ++ [(⟨z.Key,r⟩:Piece)])))→s.length + l.length≤1000000→forR body l k s=some (.go (s++l.map (fun r=>(⟨z.Key,r⟩:Piece))))
 | [],k,s,_,_=>by simp [forR]
 | r::l,k,s,h,hl=>by
  simp only [List.length_cons]at hl
  rw [forR,h k r s (by omega),Option.bind_some]
  simp only
  rw [FC z l (k + 1) _ h (by simp; omega)]
  simp
end Go.Proofs.YtjhcehhmdmbleaaGreatDoor.Law

open Go Go.Eng
namespace Go.Proofs.YtjhcehhmdmbleaaGreatDoor.Law
set_option linter.unusedVariables false
set_option linter.unusedSimpArgs false
theorem seenOfP (L:Layout) (hz:∀ z∈L.Zones,fq z.On∧nT z.Key=true) (hp:L.Zones.Pairwise (fun a b=>lt a.Key b.Key)) (hl:L.Zones.length≤5) (kk:Nat) (zk:Zone) (hk:L.Zones[kk]? = some zk) :
  ∃ R:List Rect,gM L kk=some R∧R.length≤78 ∧
   ∃ bs:List Band,R=fG bs∧kK (-200000) bs∧(∀ y,aU (-200000) (rowAt bs y)∧(∀ r∈rowAt bs y,Okr r) ∧ ∀ x,mem x (rowAt bs y)↔qG L.Zones kk x y) ∧ ∃ above:List Rect,(∀ r∈above,fq r)∧fq zk.On ∧ ∀ x y,qG L.Zones kk x y↔eF [zk.On] x y ∧ ¬ eF above x y:=by
 have hf:∀ z∈L.Zones,fq z.On:=fun z h=>(hz z h).1
 obtain ⟨above,a1,a2,a3⟩:=Ca L kk zk hk (by omega) L.Zones 0 [] rfl (Nat.le_refl _) (fun r=>by
  constructor
  ·intro h; cases h
  ·rintro ⟨i,z,h,_⟩; exact absurd h (Nat.not_lt_zero i))
 rw [Nat.zero_add]at a2
 have hset:∀ x y,qG L.Zones kk x y↔eF [zk.On] x y ∧ ¬ eF above x y:=fun x y=>by
  rw [← Cy,← Cy,Nk]
  unfold qG
  have e1:Lt L.Zones x y kk↔iY x y zk.On=true:=by
   constructor
   ·rintro ⟨z,h1,h2⟩
    rw [hk]at h1
    simp only [Option.some.injEq]at h1
    subst h1; exact h2
   ·exact fun h=>⟨zk,hk,h⟩
  refine and_congr e1 ?_
  unfold hasB
  rw [List.any_eq_true]
  constructor
  ·rintro h ⟨r,hr,k⟩
   obtain ⟨i,z,b1,b2,b3,b4⟩:=(a3 r).1 hr
   subst b4
   exact h i (by omega) ⟨z,b2,k⟩ b3
  ·rintro h i hi ⟨z,b2,k⟩ b3
   exact h ⟨z.On,(a3 _).2 ⟨i,z,by omega,b2,b3,rfl⟩,k⟩
 have hfz:fq zk.On:=hf zk (List.mem_of_getElem? hk)
 have hfa:∀ r∈above,fq r:=fun r hr=>by
  obtain ⟨i,z,b1,b2,b3,b4⟩:=(a3 r).1 hr
  rw [b4]; exact hf z (List.mem_of_getElem? b2)
 obtain ⟨R,r1,r2,bs,d0,d1,d2⟩:=JC [zk.On] above 1 5 (by decide) (by decide) (fun r hr=>by rw [List.mem_singleton]at hr; subst hr; exact hfz) hfa (fun y=>rowB_le _ y) (by omega) (by simp)
 refine⟨R,?_,?_,bs,d0,d1,fun y=>⟨(d2 y).1,(d2 y).2.1,fun x=>by rw [(d2 y).2.2,hset]⟩,above,hfa,hfz,hset⟩
 ·unfold gM
  rw [bW (by omega),a1]
  simp only [Option.bind_some,thenC,wN,hk,r1]
 ·have:(2 * ([zk.On].length + above.length) + 1) * (1 * (5 + 1))≤13 * 6:=Nat.mul_le_mul (by simp; omega) (by omega)
  omega
section
variable (L:Layout) (Rf:Nat→List Rect)
  (hR:∀ (k:Nat) (z:Zone),L.Zones[k]? = some z→gM L k=some (Rf k)∧(Rf k).length≤78)
include hR
theorem Cq:∀ (l:List Zone) (k:Nat) (s:List Piece),L.Zones.drop k=l→s.length + 78 * l.length≤100000 →
  forR (fun k x s=>jW L k x s) l k s=some (.go (s++cZ Rf l k))
 | [],k,s,_,_=>by simp [forR,cZ]
 | z::l,k,s,h,hs=>by
  have hg:=nM h
  obtain ⟨h1,h3⟩:=hR k z hg
  simp only [List.length_cons]at hs
  have b1:jW L k z s=some (.go (s++(Rf k).map (fun r=>(⟨z.Key,r⟩:Piece)))):=by
   unfold jW
   rw [h1,Option.bind_some,bW (by omega),FC z (Rf k) 0 s (fun k r s hs=>by unfold nN; rw [iE _ _ (by simp; omega)]; rfl) (by omega)]; rfl
  have c1:=Cq l (k + 1) (s++(Rf k).map (fun r=>(⟨z.Key,r⟩:Piece))) (aN h) (by rw [List.length_append,List.length_map]; omega)
  rw [forR,b1,cZ,← List.append_assoc]
  exact c1
end
theorem MP (L:Layout) (hz:∀ z∈L.Zones,fq z.On∧nT z.Key=true) (hp:L.Zones.Pairwise (fun a b=>lt a.Key b.Key)) (hl:L.Zones.length≤5) :
  ∃ Rf:Nat→List Rect,(∀ (k:Nat) (z:Zone),L.Zones[k]? = some z→gM L k=some (Rf k)∧(Rf k).length≤78 ∧
   ∃ bs:List Band,Rf k=fG bs∧kK (-200000) bs∧(∀ y,aU (-200000) (rowAt bs y)∧(∀ r∈rowAt bs y,Okr r) ∧ ∀ x,mem x (rowAt bs y)↔qG L.Zones k x y) ∧ ∃ above:List Rect,(∀ r∈above,fq r)∧fq z.On ∧ ∀ x y,qG L.Zones k x y↔eF [z.On] x y ∧ ¬ eF above x y) ∧
   ll L=some (cZ Rf L.Zones 0,0)∧(cZ Rf L.Zones 0).length≤390:=by
 have ex:∀ k:Nat,∃ R:List Rect,∀ z:Zone,L.Zones[k]? = some z→gM L k=some R∧R.length≤78 ∧
   ∃ bs:List Band,R=fG bs∧kK (-200000) bs∧(∀ y,aU (-200000) (rowAt bs y)∧(∀ r∈rowAt bs y,Okr r) ∧ ∀ x,mem x (rowAt bs y)↔qG L.Zones k x y) ∧ ∃ above:List Rect,(∀ r∈above,fq r)∧fq z.On ∧ ∀ x y,qG L.Zones k x y↔eF [z.On] x y ∧ ¬ eF above x y:=fun k=>by
  cases hk:L.Zones[k]? with
  | none=>exact⟨[],fun z h=>by cases h⟩
  | some zk =>
   obtain ⟨R,h⟩:=seenOfP L hz hp hl k zk hk
   refine⟨R,fun z h' => ?_⟩
   simp only [Option.some.injEq]at h'
   subst h'; exact h
 obtain ⟨Rf,hRf⟩:=Classical.axiomOfChoice ex
 have hR3:∀ (k:Nat) (z:Zone),L.Zones[k]? = some z→gM L k=some (Rf k)∧(Rf k).length≤78:=fun k z h=>⟨(hRf k z h).1,(hRf k z h).2.1⟩
 have s1:=Cq L Rf hR3 L.Zones 0 [] rfl (by simp; omega)
 have hlen:(cZ Rf L.Zones 0).length≤78 * L.Zones.length:=BZ Rf 78 L.Zones 0 (fun j _ hj=>(hR3 j _ (List.getElem?_eq_getElem (by omega))).2)
 have hlen':(cZ Rf L.Zones 0).length≤390:=by omega
 refine⟨Rf,fun k z h=>hRf k z h,?_,hlen'⟩
 unfold ll
 rw [bW (by omega),s1]
 have:decide (((cZ Rf L.Zones 0).length:Int) > 2000)=false:=by simp; omega
 simp only [Option.bind_some,thenC,List.nil_append,this,cond_false]
end Go.Proofs.YtjhcehhmdmbleaaGreatDoor.Law

open Go Go.Eng
namespace Go.Proofs.YtjhcehhmdmbleaaGreatDoor.Law
set_option linter.unusedVariables false
set_option linter.unusedSimpArgs false
def back (h H y:Int):Int:=((y + 1) * h - 1) / H
theorem tJ {t h H y:Int} (h0:0 < h) (H0:0 < H):t * H / h≤y↔t≤back h H y:=by
 unfold back
 rw [Int.le_ediv_iff_mul_le H0]
 have:=Int.ediv_lt_iff_lt_mul (a:=t * H) (b:=y + 1) h0
 omega
def scR (w h W H:Int) (r:Rect):Rect :=
 bif ((r.X + r.W) * W / w - r.X * W / w == 0) || ((r.Y + r.H) * H / h - r.Y * H / h == 0)then⟨0,0,0,0⟩else⟨r.X * W / w,r.Y * H / h,(r.X + r.W) * W / w - r.X * W / w,(r.Y + r.H) * H / h - r.Y * H / h⟩
theorem LA {w h W H:Int} (w0:0 < w) (h0:0 < h) (W0:0 < W) (H0:0 < H) (r:Rect) (x y:Int):iY x y (scR w h W H r)=iY (back w W x) (back h H y) r:=by
 have a1:=tJ (t:=r.X) (y:=x) w0 W0
 have a2:=tJ (t:=r.X + r.W) (y:=x) w0 W0
 have a3:=tJ (t:=r.Y) (y:=y) h0 H0
 have a4:=tJ (t:=r.Y + r.H) (y:=y) h0 H0
 generalize back w W x=bx at *
 generalize back h H y=by' at *
 unfold scR
 generalize r.X * W / w=X0 at *
 generalize (r.X + r.W) * W / w=X1 at *
 generalize r.Y * H / h=Y0 at *
 generalize (r.Y + r.H) * H / h=Y1 at *
 rw [Bool.eq_iff_iff]
 cases hz:((X1 - X0 == 0) || (Y1 - Y0 == 0))with
 | true =>
  simp only [cond_true,iY,Bool.and_eq_true,decide_eq_true_eq]
  simp only [Bool.or_eq_true,beq_iff_eq]at hz
  omega
 | false =>
  simp only [cond_false,iY,Bool.and_eq_true,decide_eq_true_eq]
  omega
theorem uf {a b H h:Int} (h0:0 < h) (H0:0 < H) (hab:a≤b):a * H / h≤b * H / h :=
 Int.ediv_le_ediv h0 (Int.mul_le_mul_of_nonneg_right hab (by omega))
theorem scR_in {w h W H:Int} (w0:0 < w) (h0:0 < h) (W0:0 < W) (H0:0 < H) {r:Rect} (hx:0≤r.X∧0≤r.W∧r.X + r.W≤w) (hy:0≤r.Y∧0≤r.H∧r.Y + r.H≤h) :
  0≤(scR w h W H r).X∧0≤(scR w h W H r).W∧(scR w h W H r).X + (scR w h W H r).W≤W∧0≤(scR w h W H r).Y∧0≤(scR w h W H r).H∧(scR w h W H r).Y + (scR w h W H r).H≤H∧(scR w h W H r=⟨0,0,0,0⟩∨(0 < (scR w h W H r).W∧0 < (scR w h W H r).H)):=by
 have e1:0≤r.X * W / w:=Int.ediv_nonneg (Int.mul_nonneg hx.1 (by omega)) (by omega)
 have e2:r.X * W / w≤(r.X + r.W) * W / w:=uf w0 W0 (by omega)
 have e3:(r.X + r.W) * W / w≤w * W / w:=uf w0 W0 hx.2.2
 have f1:0≤r.Y * H / h:=Int.ediv_nonneg (Int.mul_nonneg hy.1 (by omega)) (by omega)
 have f2:r.Y * H / h≤(r.Y + r.H) * H / h:=uf h0 H0 (by omega)
 have f3:(r.Y + r.H) * H / h≤h * H / h:=uf h0 H0 hy.2.2
 rw [Int.mul_ediv_cancel_left _ (by omega)]at e3 f3
 unfold scR
 generalize r.X * W / w=X0 at *
 generalize (r.X + r.W) * W / w=X1 at *
 generalize r.Y * H / h=Y0 at *
 generalize (r.Y + r.H) * H / h=Y1 at *
 cases hz:((X1 - X0 == 0) || (Y1 - Y0 == 0))with
 | true =>
  simp only [cond_true]
  exact⟨Int.le_refl _,Int.le_refl _,by omega,Int.le_refl _,Int.le_refl _,by omega,.inl trivial⟩
 | false =>
  simp only [cond_false]
  simp only [Bool.or_eq_false_iff,beq_eq_false_iff_ne]at hz
  exact⟨e1,by omega,by omega,f1,by omega,by omega,.inr ⟨by omega,by omega⟩⟩
end Go.Proofs.YtjhcehhmdmbleaaGreatDoor.Law

open Go Go.Eng
namespace Go.Proofs.YtjhcehhmdmbleaaGreatDoor.Law
set_option linter.unusedVariables false
set_option linter.unusedSimpArgs false
def sS (n:Int):Bool:=oH n 1 20000
theorem isSideK (n:Int):jC n=some (!sS n):=by unfold jC; rw [uJ]; rfl
theorem sides4K (a b c d:Int):dY [a,b,c,d]=some (bif sS a || sS b || sS c || sS d then 1 else 0):=by
 unfold dY
 rw [bW (by simp)]
 simp only [forR,gN,isSideK,Option.bind_some,Bool.not_not]
 cases sS a <;> cases sS b <;> cases sS c <;> cases sS d <;> rfl
theorem Fz (r:Rect) (w h W H:Int) (hx:0≤r.X∧0≤r.W∧r.X + r.W≤w) (hy:0≤r.Y∧0≤r.H∧r.Y + r.H≤h) (hw:1≤w∧w≤20000) (hh:1≤h∧h≤20000) (hW:1≤W∧W≤20000) (hH:1≤H∧H≤20000) :
  jl r w h W H=some (scR w h W H r):=by
 have mul_b:∀ a b:Int,0≤a→a≤20000→1≤b→b≤20000→0≤a * b∧a * b≤400000000:=fun a b h1 h2 h3 h4 =>
  ⟨Int.mul_nonneg h1 (by omega),Int.le_trans (Int.mul_le_mul_of_nonneg_right h2 (by omega)) (Int.le_trans (Int.mul_le_mul_of_nonneg_left h4 (by omega)) (by omega))⟩
 have q_ok:∀ a b:Int,0≤a→a≤400000000→1≤b→Ad .i64 a b=some (a / b)∧0≤a / b∧a / b≤400000000:=fun a b h1 h2 h3=>by
  have e:a.tdiv b=a / b:=Int.tdiv_eq_ediv_of_nonneg h1
  have k1:0≤a / b:=Int.ediv_nonneg h1 (by omega)
  have k2:a / b≤a:=Int.ediv_le_self b h1
  refine⟨?_,k1,by omega⟩
  unfold Ad
  rw [if_neg (by omega),e]
  exact congrArg some (bz (n:=a / b) (by omega))
 obtain ⟨a1,a2⟩:=mul_b r.X W (by omega) (by omega) hW.1 hW.2
 obtain ⟨b1,b2⟩:=mul_b r.Y H (by omega) (by omega) hH.1 hH.2
 obtain ⟨c1,c2⟩:=mul_b (r.X + r.W) W (by omega) (by omega) hW.1 hW.2
 obtain ⟨d1,d2⟩:=mul_b (r.Y + r.H) H (by omega) (by omega) hH.1 hH.2
 obtain ⟨p1,p2,p3⟩:=q_ok (r.X * W) w a1 a2 hw.1
 obtain ⟨q1,q2,q3⟩:=q_ok (r.Y * H) h b1 b2 hh.1
 obtain ⟨u1,u2,u3⟩:=q_ok ((r.X + r.W) * W) w c1 c2 hw.1
 obtain ⟨v1,v2,v3⟩:=q_ok ((r.Y + r.H) * H) h d1 d2 hh.1
 unfold jl scR
 rw [bz (n:=r.X + r.W) (by omega),bz (n:=r.Y + r.H) (by omega),bz (n:=r.X * W) (by omega),bz (n:=r.Y * H) (by omega),bz (n:=(r.X + r.W) * W) (by omega),bz (n:=(r.Y + r.H) * H) (by omega)]
 rw [p1,q1,u1,v1]
 simp only [Option.bind_some]
 rw [bz (n:=(r.X + r.W) * W / w - r.X * W / w) (by omega),bz (n:=(r.Y + r.H) * H / h - r.Y * H / h) (by omega)]
 cases ((r.X + r.W) * W / w - r.X * W / w == 0) <;> cases ((r.Y + r.H) * H / h - r.Y * H / h == 0) <;> rfl
end Go.Proofs.YtjhcehhmdmbleaaGreatDoor.Law

open Go Go.Eng
namespace Go.Proofs.YtjhcehhmdmbleaaGreatDoor.Law
set_option linter.unusedVariables false
set_option linter.unusedSimpArgs false
theorem Jy {a b:Rect} (h:(dB a b).2=true):∃ x y,iY x y a=true∧iY x y b=true:=by
 unfold dB at h
 cases hc:decide (min (a.X + a.W) (b.X + b.W) - max a.X b.X≤0) || decide (min (a.Y + a.H) (b.Y + b.H) - max a.Y b.Y≤0)with
 | true=>rw [hc]at h; cases h
 | false =>
  simp only [Bool.or_eq_false_iff,decide_eq_false_iff_not]at hc
  refine⟨max a.X b.X,max a.Y b.Y,?_,?_⟩ <;>
  ·simp only [iY,Bool.and_eq_true,decide_eq_true_eq]
   omega
theorem LU {a b:Rect} (ha:fq a) (hb:fq b):pz a b=some ((dB a b).1,(dB a b).2,0):=by
 have hl:forL (List.range (2:Int).toNat) () (fun k x s=>lF a b k x s)=some (.go ()):=by
  rw [bW (by simp)]
  show forR _ [0,1] 0 ()=_
  simp only [forR,lF]
  rw [show idx [a,b] ((0:Nat):Int)=some a from rfl,show idx [a,b] ((0 + 1:Nat):Int)=some b from rfl]
  simp only [Option.bind_some,qj,Ar ha,Ar hb]
  rfl
 unfold pz
 rw [hl,Option.bind_some,GZ ha.bnd hb.bnd]
 rfl
theorem MR {x y:Int} {l:List Rect} {i k:Nat} {a b:Rect} (hik:i < k) (ha:l[i]? = some a) (hb:l[k]? = some b) (h1:iY x y a=true) (h2:iY x y b=true):2≤gZ l x y:=by
 induction l generalizing i k with
 | nil=>simp at ha
 | cons r l ih =>
  cases k with
  | zero=>omega
  | succ k =>
   cases i with
   | zero =>
    simp only [List.getElem?_cons_zero,Option.some.injEq]at ha
    subst ha
    simp only [List.getElem?_cons_succ]at hb
    have:=yY (l:=l) ((nI _ _ _).2 ⟨b,List.mem_of_getElem? hb,h2⟩)
    unfold gZ at *
    rw [fI,KD h1]; omega
   | succ i =>
    simp only [List.getElem?_cons_succ]at ha hb
    have:=ih (by omega) ha hb
    have h0:0≤ind r x y:=by rcases Gp r x y with k | k <;> omega
    unfold gZ at *
    rw [fI]; omega
theorem Ck {f:Int→Int} {c lo:Int} (h:∀ x,0≤f x∧f x≤c):∀ n:Nat,0≤nu f lo n∧nu f lo n≤c * n
 | 0=>by simp [nu]
 | n + 1=>by
  have ih:=Ck (lo:=lo) h n
  have hx:=h (lo + n)
  have e:c * ((n + 1:Nat):Int)=c * (n:Int) + c:=by rw [Int.natCast_add,Int.mul_add]; simp
  rw [e]
  simp only [nu]
  omega
theorem SS_bnd {f:Int→Int→Int} {lo:Int} (h:∀ x y,0≤f x y∧f x y≤1) (n:Nat) (hn:n=200000):0≤SS lo n f∧SS lo n f≤40000000000:=by
 have h1:=Ck (f:=fun y=>nu (fun x=>f x y) lo n) (c:=1 * n) (lo:=lo) (fun y=>Ck (fun x=>h x y) n) n
 unfold SS
 rw [hn]at h1 ⊢
 exact⟨h1.1,h1.2⟩
theorem P01_bnd (p:Prop):0≤P01 p∧P01 p≤1:=by
 by_cases h:p
 ·rw [uW h]; omega
 ·rw [qh h]; omega
end Go.Proofs.YtjhcehhmdmbleaaGreatDoor.Law

open Go Go.Eng
namespace Go.Proofs.YtjhcehhmdmbleaaGreatDoor.Law
set_option linter.unusedVariables false
set_option linter.unusedSimpArgs false
def oZ {σ ρ:Type} (s:σ) (body:σ→Option (Ctl σ ρ)):Option (Ctl σ ρ):=iterN body 300 s
def Le {α:Type} (a b:Option α):Prop := ∀ r,a=some r→b=some r
theorem Le.refl {α:Type} (a:Option α):Le a a:=fun _ h=>h
theorem Le.bind {α β:Type} {a b:Option α} {f g:α→Option β} (h:Le a b) (k:∀ x,Le (f x) (g x)):Le (a.bind f) (b.bind g):=fun r e=>by
 obtain ⟨x,h1,h2⟩:=Option.bind_eq_some_iff.1 e
 rw [h x h1]; exact k x r h2
theorem Le.cond {α:Type} {a b c d:Option α} {t:Bool} (h:Le a c) (k:Le b d):Le (bif t then a else b) (bif t then c else d):=by
 cases t
 ·exact k
 ·exact h
theorem Le.thenC {σ ρ τ:Type} {o:Ctl σ ρ} {f f':σ→Option τ} {g g':ρ→Option τ} (h:∀ x,Le (f x) (f' x)) (k:∀ x,Le (g x) (g' x)):Le (Go.Eng.thenC o f g) (Go.Eng.thenC o f' g'):=by
 cases o
 ·exact h _
 ·exact Le.refl _
 ·exact k _
theorem Le.forR {α σ ρ:Type} {b b':Nat→α→σ→Option (Ctl σ ρ)} (h:∀ k x s,Le (b k x s) (b' k x s)):∀ (xs:List α) (k:Nat) (s:σ),Le (Go.Eng.forR b xs k s) (Go.Eng.forR b' xs k s)
 | [],k,s=>Le.refl _
 | x::xs,k,s=>Le.bind (h k x s) (fun c=>by
   cases c with
   | go s'=>exact Le.forR h xs _ _
   | brk s'=>exact Le.refl _
   | ret r=>exact Le.refl _)
theorem Le.forL {α σ ρ:Type} {xs:List α} {s:σ} {b b':Nat→α→σ→Option (Ctl σ ρ)} (h:∀ k x s,Le (b k x s) (b' k x s)):Le (Go.Eng.forL xs s b) (Go.Eng.forL xs s b'):=by
 unfold Go.Eng.forL
 split
 ·exact Le.forR h xs 0 s
 ·exact Le.refl _
theorem Le.iterN {σ ρ:Type} {b b':σ→Option (Ctl σ ρ)} (h:∀ s,Le (b s) (b' s)):∀ (n:Nat) (s:σ),Le (Go.Eng.iterN b n s) (Go.Eng.iterN b' n s)
 | 0,s=>Le.refl _
 | n + 1,s=>Le.bind (h s) (fun c=>by
   cases c with
   | go s'=>exact Le.iterN h n s'
   | brk s'=>exact Le.refl _
   | ret r=>exact Le.refl _)
theorem Le.loop {σ ρ:Type} {s:σ} {b b':σ→Option (Ctl σ ρ)} (h:∀ s,Le (b s) (b' s)):Le (oZ s b) (jr s b'):=fun r e=>iP (Le.iterN h _ _ r e)
end Go.Proofs.YtjhcehhmdmbleaaGreatDoor.Law

open Go Go.Eng
namespace Go.Proofs.YtjhcehhmdmbleaaGreatDoor.Law
set_option linter.unusedVariables false
set_option linter.unusedSimpArgs false
def Ls (x:Int):List Int→List Int
 | [] => [x]
 | y::l=>bif decide (x≤y)then x::y::l else y::Ls x l
def CL:List Int→List Int
 | [] => []
 | x::l=>Ls x (CL l)
theorem zR (x:Int):∀ l,(Ls x l).Perm (x::l)
 | [] => .refl _
 | y::l=>by
  unfold Ls
  cases decide (x≤y)with
  | true=>exact .refl _
  | false=>exact ((zR x l).cons y).trans (List.Perm.swap x y l)
theorem Bc:∀ l,(CL l).Perm l
 | [] => .refl _
 | x::l=>(zR x _).trans ((Bc l).cons x)
theorem Bi (x:Int):∀ l:List Int,l.Pairwise (· ≤ ·)→(Ls x l).Pairwise (· ≤ ·)
 | [],_=>List.pairwise_singleton _ _
 | y::l,h=>by
  obtain ⟨h1,h2⟩:=List.pairwise_cons.1 h
  unfold Ls
  by_cases hx:x≤y
  ·rw [decide_eq_true hx,cond_true]
   exact List.pairwise_cons.2 ⟨fun z hz=>by
    rcases List.mem_cons.1 hz with rfl | hz
    ·exact hx
    ·exact Int.le_trans hx (h1 z hz),h⟩
  ·rw [decide_eq_false hx,cond_false]
   exact List.pairwise_cons.2 ⟨fun z hz=>by
    rcases List.mem_cons.1 ((zR x l).mem_iff.1 hz)with rfl | hz
    ·omega
    ·exact h1 z hz,Bi x l h2⟩
theorem xJ:∀ l,(CL l).Pairwise (· ≤ ·)
 | [] => .nil
 | x::l=>Bi x _ (xJ l)
theorem L8 (l:List Int):l.mergeSort (fun x y=>decide (x≤y))=CL l:=by
 refine List.Perm.eq_of_pairwise (le:=(· ≤ ·)) (fun a b _ _ h1 h2=>Int.le_antisymm h1 h2) ?_ (xJ l) ((List.mergeSort_perm l _).trans (Bc l).symm)
 have:=List.pairwise_mergeSort (le:=fun (x y:Int)=>decide (x≤y)) (fun a b c=>by simp; omega) (fun a b=>by simp; omega) l
 exact this.imp (by simp)
def MQ (l:List Int):Option (List Int):=bif Nat.ble l.length 1000 then some (CL l)else none
theorem NV (l:List Int):Le (MQ l) (dA l):=fun r h=>by
 unfold MQ at h
 cases hb:Nat.ble l.length 1000 with
 | false=>rw [hb]at h; cases h
 | true =>
  rw [hb,cond_true]at h
  have:=Nat.le_of_ble_eq_true hb
  unfold dA Ik
  rw [if_pos (by omega),L8]; exact h
end Go.Proofs.YtjhcehhmdmbleaaGreatDoor.Law

open Go Go.Eng
namespace Go.Proofs.YtjhcehhmdmbleaaGreatDoor.Law
set_option linter.unusedVariables false
set_option linter.unusedSimpArgs false
set_option maxRecDepth 100000
def gP (s_1:(List Int)) (s_8:Int):Option (Ctl (Int) ((List Int))) :=
 bif (decide (s_8 < (s_1.length:Int)))then (inR s_8 s_1).bind fun _=>(s_1[(0 + (s_8).toNat)]?).bind fun e_15=>(inR (w64 (s_8 - 1)) s_1).bind fun _=>(s_1[(0 + ((w64 (s_8 - 1))).toNat)]?).bind fun e_18=>bif (e_15 == e_18)then (neL s_1).bind fun _=>(vo s_1 s_8 (s_1.length:Int)).bind fun _=>(oZ (s_1,s_8,1) (fun s=>bQ s_1 s_8 s)).bind fun o_31=>thenC o_31 (fun s_28=>(vo s_28.1 s_28.2.1 (s_28.1.length:Int)).bind fun _=>(vo (s_28.1.take ((s_28.2.1).toNat)++List.replicate (((s_28.1.length:Int)).toNat - (s_28.2.1).toNat) 0++s_28.1.drop (((s_28.2.1).toNat) + (((s_28.1.length:Int)).toNat - (s_28.2.1).toNat))) 0 s_28.2.1).bind fun _=>some (.ret (cutL (s_28.1.take ((s_28.2.1).toNat)++List.replicate (((s_28.1.length:Int)).toNat - (s_28.2.1).toNat) 0++s_28.1.drop (((s_28.2.1).toNat) + (((s_28.1.length:Int)).toNat - (s_28.2.1).toNat))) 0 ((s_28.2.1).toNat)))) (fun _=>none)else some (.go (w64 (s_8 + 1)))else some (.brk s_8)
theorem nR (s_1:(List Int)) (s_8:Int):Le (gP s_1 s_8) (aV s_1 s_8):=by
 unfold gP aV
 repeat' (with_reducible first | exact Le.refl _ | refine Le.loop (fun _ => ?_) | refine Le.forL (fun _ _ _ => ?_) | refine Le.thenC (fun _ => ?_) (fun _ => ?_) | refine Le.cond ?_ ?_ | refine Le.bind ?_ (fun _ => ?_))
def iK (s_1:(List Int)):Option ((List Int)) :=
 bif (decide ((s_1.length:Int) < 2))then some s_1 else (oZ 1 (fun s=>gP s_1 s)).bind fun o_11=>thenC o_11 (fun s_8=>some s_1) (fun r=>some r)
theorem qc (s_1:(List Int)):Le (iK s_1) (bU s_1):=by
 unfold iK bU
 repeat' (with_reducible first | exact Le.refl _ | exact nR _ _ | refine Le.loop (fun _ => ?_) | refine Le.forL (fun _ _ _ => ?_) | refine Le.thenC (fun _ => ?_) (fun _ => ?_) | refine Le.cond ?_ ?_ | refine Le.bind ?_ (fun _ => ?_))
def dD (b_3:Int) (a_2:Int) (s_10:(List Run)×Int):Option (Ctl ((List Run)×Int) (Unit)) :=
 bif (decide (s_10.2 < b_3))then (oZ (s_10.1,s_10.2) (fun s=>cz a_2 s)).bind fun o_24=>thenC o_24 (fun s_21=>some (.go (s_21.1,(w64 (s_10.2 + 1))))) (fun _=>none)else some (.brk (s_10.1,s_10.2))
theorem ji (b_3:Int) (a_2:Int) (s_10:(List Run)×Int):Le (dD b_3 a_2 s_10) (bI b_3 a_2 s_10):=by
 unfold dD bI
 repeat' (with_reducible first | exact Le.refl _ | refine Le.loop (fun _ => ?_) | refine Le.forL (fun _ _ _ => ?_) | refine Le.thenC (fun _ => ?_) (fun _ => ?_) | refine Le.cond ?_ ?_ | refine Le.bind ?_ (fun _ => ?_))
def dM (data_1:(List Run)) (a_2:Int) (b_3:Int):Option ((List Run)) :=
 (oZ (data_1,(w64 (a_2 + 1))) (fun s=>dD b_3 a_2 s)).bind fun o_13=>thenC o_13 (fun s_10=>some s_10.1) (fun _=>none)
theorem jQ (data_1:(List Run)) (a_2:Int) (b_3:Int):Le (dM data_1 a_2 b_3) (bO data_1 a_2 b_3):=by
 unfold dM bO
 repeat' (with_reducible first | exact Le.refl _ | exact ji _ _ _ | refine Le.loop (fun _ => ?_) | refine Le.forL (fun _ _ _ => ?_) | refine Le.thenC (fun _ => ?_) (fun _ => ?_) | refine Le.cond ?_ ?_ | refine Le.bind ?_ (fun _ => ?_))
def eu (b_3:Int) (a_2:Int) (data_1:(List Run)) (limit_4:Int) (s_11:Unit):Option (Ctl (Unit) ((List Run))) :=
 bif (decide ((w64 (b_3 - a_2))≤12))then (dM data_1 a_2 b_3).bind fun r_17=>(jE r_17 data_1).bind fun _=>some (.ret r_17)else bif (limit_4 == 0)then none else none
theorem kH (b_3:Int) (a_2:Int) (data_1:(List Run)) (limit_4:Int) (s_11:Unit):Le (eu b_3 a_2 data_1 limit_4 s_11) (bZ b_3 a_2 data_1 limit_4 s_11):=by
 unfold eu bZ
 repeat' (with_reducible first | exact Le.refl _ | exact jQ _ _ _ | refine Le.loop (fun _ => ?_) | refine Le.forL (fun _ _ _ => ?_) | refine Le.thenC (fun _ => ?_) (fun _ => ?_) | refine Le.cond ?_ ?_ | refine Le.bind ?_ (fun _ => ?_))
def eX (data_1:(List Run)) (a_2:Int) (b_3:Int) (limit_4:Int):Option ((List Run)) :=
 (oZ () (fun s=>eu b_3 a_2 data_1 limit_4 s)).bind fun o_14=>thenC o_14 (fun s_11=>some data_1) (fun r=>some r)
theorem lc (data_1:(List Run)) (a_2:Int) (b_3:Int) (limit_4:Int):Le (eX data_1 a_2 b_3 limit_4) (bR data_1 a_2 b_3 limit_4):=by
 unfold eX bR
 repeat' (with_reducible first | exact Le.refl _ | exact kH _ _ _ _ _ | refine Le.loop (fun _ => ?_) | refine Le.forL (fun _ _ _ => ?_) | refine Le.thenC (fun _ => ?_) (fun _ => ?_) | refine Le.cond ?_ ?_ | refine Le.bind ?_ (fun _ => ?_))
def dS (x_1:(List Run)):Option ((List Run)) :=
 (kJ (IntKind.u64.wrap (x_1.length:Int))).bind fun r_3=>(eX x_1 0 (x_1.length:Int) r_3).bind fun r_5=>(jE r_5 x_1).bind fun _=>some r_5
theorem j4 (x_1:(List Run)):Le (dS x_1) (bn x_1):=by
 unfold dS bn
 repeat' (with_reducible first | exact Le.refl _ | exact lc _ _ _ _ | refine Le.loop (fun _ => ?_) | refine Le.forL (fun _ _ _ => ?_) | refine Le.thenC (fun _ => ?_) (fun _ => ?_) | refine Le.cond ?_ ?_ | refine Le.bind ?_ (fun _ => ?_))
def qi (l_1:(List Rect)) (y_2:Int):Option ((List Run)) :=
 (forL l_1 ([]:List Run) (fun k x s=>iX y_2 k x s)).bind fun o_14=>thenC o_14 (fun s_8=>(dS s_8).bind fun r_27=>(jE r_27 s_8).bind fun _=>(forL r_27 ([]:List Run) (fun k x s=>fM k x s)).bind fun o_41=>thenC o_41 (fun s_35=>some s_35) (fun _=>none)) (fun _=>none)
theorem DC (l_1:(List Rect)) (y_2:Int):Le (qi l_1 y_2) (dE l_1 y_2):=by
 unfold qi dE
 repeat' (with_reducible first | exact Le.refl _ | exact j4 _ | refine Le.loop (fun _ => ?_) | refine Le.forL (fun _ _ _ => ?_) | refine Le.thenC (fun _ => ?_) (fun _ => ?_) | refine Le.cond ?_ ?_ | refine Le.bind ?_ (fun _ => ?_))
def pY (m_2:(List Run)) (k_3:Nat) (x_5:Run) (s_8:(List Run)×Int):Option (Ctl ((List Run)×Int) (Unit)) :=
 (oZ s_8.2 (fun s=>fA m_2 x_5 s)).bind fun o_25=>thenC o_25 (fun s_22=>(oZ (s_8.1,s_22,x_5.f_from) (fun s=>dR m_2 x_5 s)).bind fun o_43=>thenC o_43 (fun s_38=>(bif (decide (s_38.2.2 < x_5.f_to))then (ma s_38.1 ([(⟨s_38.2.2,x_5.f_to⟩:Run)]:List Run)).bind fun a_68=>some a_68 else some s_38.1).bind fun v_64=>some (.go (v_64,s_22))) (fun _=>none)) (fun _=>none)
theorem zy (m_2:(List Run)) (k_3:Nat) (x_5:Run) (s_8:(List Run)×Int):Le (pY m_2 k_3 x_5 s_8) (gW m_2 k_3 x_5 s_8):=by
 unfold pY gW
 repeat' (with_reducible first | exact Le.refl _ | refine Le.loop (fun _ => ?_) | refine Le.forL (fun _ _ _ => ?_) | refine Le.thenC (fun _ => ?_) (fun _ => ?_) | refine Le.cond ?_ ?_ | refine Le.bind ?_ (fun _ => ?_))
def uu (l_1:(List Run)) (m_2:(List Run)):Option ((List Run)) :=
 (forL l_1 (([]:List Run),0) (fun k x s=>pY m_2 k x s)).bind fun o_14=>thenC o_14 (fun s_8=>some s_8.1) (fun _=>none)
theorem Dc (l_1:(List Run)) (m_2:(List Run)):Le (uu l_1 m_2) (iG l_1 m_2):=by
 unfold uu iG
 repeat' (with_reducible first | exact Le.refl _ | exact zy _ _ _ _ | refine Le.loop (fun _ => ?_) | refine Le.forL (fun _ _ _ => ?_) | refine Le.thenC (fun _ => ?_) (fun _ => ?_) | refine Le.cond ?_ ?_ | refine Le.bind ?_ (fun _ => ?_))
def nK (r_25:(List Int)) (l_1:(List Rect)) (m_2:(List Rect)) (k_27:Nat) (x_29:Int) (s_32:(List Rect)×(List Run)×Int):Option (Ctl ((List Rect)×(List Run)×Int) (Unit)) :=
 (bif (decide ((w64 ((k_27:Int) + 1)) < (r_25.length:Int)))then (qi l_1 x_29).bind fun r_45=>(qi m_2 x_29).bind fun r_47=>(uu r_45 r_47).bind fun r_49=>some r_49 else some ([]:List Run)).bind fun v_42=>(aZ s_32.2.1 v_42).bind fun r_51=>bif r_51 then some (.go (s_32.1,s_32.2.1,s_32.2.2))else (forL s_32.2.1 s_32.1 (fun k x s=>eP s_32 x_29 k x s)).bind fun o_64=>thenC o_64 (fun s_59=>some (.go (s_59,v_42,x_29))) (fun _=>none)
theorem xx (r_25:(List Int)) (l_1:(List Rect)) (m_2:(List Rect)) (k_27:Nat) (x_29:Int) (s_32:(List Rect)×(List Run)×Int):Le (nK r_25 l_1 m_2 k_27 x_29 s_32) (dz r_25 l_1 m_2 k_27 x_29 s_32):=by
 unfold nK dz
 repeat' (with_reducible first | exact Le.refl _ | exact DC _ _ | exact Dc _ _ | refine Le.loop (fun _ => ?_) | refine Le.forL (fun _ _ _ => ?_) | refine Le.thenC (fun _ => ?_) (fun _ => ?_) | refine Le.cond ?_ ?_ | refine Le.bind ?_ (fun _ => ?_))
def rE (l_1:(List Rect)) (m_2:(List Rect)):Option ((List Rect)) :=
 (cK ([l_1,m_2]:List (List Rect))).bind fun r_3=>(forL r_3 ([]:List Int) (fun k x s=>fE k x s)).bind fun o_16=>thenC o_16 (fun s_10=>(MQ s_10).bind fun r_22=>(jE r_22 s_10).bind fun _=>(iK r_22).bind fun r_25=>(forL r_25 (([]:List Rect),([]:List Run),0) (fun k x s=>nK r_25 l_1 m_2 k x s)).bind fun o_38=>thenC o_38 (fun s_32=>some s_32.1) (fun _=>none)) (fun _=>none)
theorem Ap (l_1:(List Rect)) (m_2:(List Rect)):Le (rE l_1 m_2) (dw l_1 m_2):=by
 unfold rE dw
 repeat' (with_reducible first | exact Le.refl _ | exact qc _ | exact xx _ _ _ _ _ _ | exact NV _ | refine Le.loop (fun _ => ?_) | refine Le.forL (fun _ _ _ => ?_) | refine Le.thenC (fun _ => ?_) (fun _ => ?_) | refine Le.cond ?_ ?_ | refine Le.bind ?_ (fun _ => ?_))
def uq (l_1:(List Rect)):Option (Int×Int) :=
 (kR l_1).bind fun r_2=>bif (r_2 != 0)then some (0,r_2)else (rE l_1 ([]:List Rect)).bind fun r_5=>(lH r_5).bind fun r_7=>some (r_7,0)
theorem DT (l_1:(List Rect)):Le (uq l_1) (pq l_1):=by
 unfold uq pq
 repeat' (with_reducible first | exact Le.refl _ | exact Ap _ _ | refine Le.loop (fun _ => ?_) | refine Le.forL (fun _ _ _ => ?_) | refine Le.thenC (fun _ => ?_) (fun _ => ?_) | refine Le.cond ?_ ?_ | refine Le.bind ?_ (fun _ => ?_))
def gD (s_1:ByteArray):Option (Bool) :=
 (oZ 0 (fun s=>jo s_1 s)).bind fun o_10=>thenC o_10 (fun s_7=>(bif (sNe s_1 (⟨#[]⟩:ByteArray))then some (decide ((s_1.size:Int)≤40))else some false).bind fun v_30=>some v_30) (fun r=>some r)
theorem jg (s_1:ByteArray):Le (gD s_1) (dU s_1):=by
 unfold gD dU
 repeat' (with_reducible first | exact Le.refl _ | refine Le.loop (fun _ => ?_) | refine Le.forL (fun _ _ _ => ?_) | refine Le.thenC (fun _ => ?_) (fun _ => ?_) | refine Le.cond ?_ ?_ | refine Le.bind ?_ (fun _ => ?_))
def lY (l_1:(List ByteArray)) (k_2:Nat) (x_4:ByteArray) (s_7:Unit):Option (Ctl (Unit) (Int)) :=
 (gD x_4).bind fun r_12=>bif (!r_12)then some (.ret 5)else (bif (decide ((k_2:Int) > 0))then (idx l_1 (w64 ((k_2:Int) - 1))).bind fun y_18=>some (sLe x_4 y_18)else some false).bind fun v_15=>bif v_15 then some (.ret 7)else some (.go ())
theorem u7 (l_1:(List ByteArray)) (k_2:Nat) (x_4:ByteArray) (s_7:Unit):Le (lY l_1 k_2 x_4 s_7) (iM l_1 k_2 x_4 s_7):=by
 unfold lY iM
 repeat' (with_reducible first | exact Le.refl _ | exact jg _ | refine Le.loop (fun _ => ?_) | refine Le.forL (fun _ _ _ => ?_) | refine Le.thenC (fun _ => ?_) (fun _ => ?_) | refine Le.cond ?_ ?_ | refine Le.bind ?_ (fun _ => ?_))
def lL (l_1:(List ByteArray)):Option (Int) :=
 (forL l_1 () (fun k x s=>lY l_1 k x s)).bind fun o_10=>thenC o_10 (fun s_7=>some 0) (fun r=>some r)
theorem qK (l_1:(List ByteArray)):Le (lL l_1) (jc l_1):=by
 unfold lL jc
 repeat' (with_reducible first | exact Le.refl _ | exact u7 _ _ _ _ | refine Le.loop (fun _ => ?_) | refine Le.forL (fun _ _ _ => ?_) | refine Le.thenC (fun _ => ?_) (fun _ => ?_) | refine Le.cond ?_ ?_ | refine Le.bind ?_ (fun _ => ?_))
def l6 (l_1:(List ByteArray)):Option (Int) :=
 bif (decide ((l_1.length:Int) > 20))then some 2 else (lL l_1).bind fun r_3=>some r_3
theorem ve (l_1:(List ByteArray)):Le (l6 l_1) (iQ l_1):=by
 unfold l6 iQ
 repeat' (with_reducible first | exact Le.refl _ | exact qK _ | refine Le.loop (fun _ => ?_) | refine Le.forL (fun _ _ _ => ?_) | refine Le.thenC (fun _ => ?_) (fun _ => ?_) | refine Le.cond ?_ ?_ | refine Le.bind ?_ (fun _ => ?_))
def kU (e_1:Entry):Option (Int) :=
 ((gD e_1.Key).bind fun r_5=>bif (!r_5)then some true else (gD e_1.Item).bind fun r_8=>some (!r_8)).bind fun v_3=>bif v_3 then some 5 else ((aO e_1.Version 0 1000000).bind fun r_13=>bif r_13 then some true else (aO e_1.First 0 e_1.Last).bind fun r_16=>bif r_16 then some true else bif (decide (e_1.Last > 4000))then some true else (aO e_1.Every 1 400).bind fun r_20=>bif r_20 then some true else (aO e_1.Days 1 127).bind fun r_23=>some r_23).bind fun v_11=>bif v_11 then some 1 else (jA e_1.Except).bind fun r_26=>bif (r_26 != 0)then some r_26 else ((aO e_1.From 0 1439).bind fun r_31=>bif r_31 then some true else (aO e_1.To 0 1439).bind fun r_34=>bif r_34 then some true else (aO e_1.Prio 0 9).bind fun r_37=>some r_37).bind fun v_29=>bif v_29 then some 1 else (l6 e_1.Tags).bind fun r_40=>some r_40
theorem uD (e_1:Entry):Le (kU e_1) (iB e_1):=by
 unfold kU iB
 repeat' (with_reducible first | exact Le.refl _ | exact jg _ | exact ve _ | refine Le.loop (fun _ => ?_) | refine Le.forL (fun _ _ _ => ?_) | refine Le.thenC (fun _ => ?_) (fun _ => ?_) | refine Le.cond ?_ ?_ | refine Le.bind ?_ (fun _ => ?_))
def jb (l_1:(List Entry)) (k_3:Nat) (x_5:Entry) (s_8:Unit):Option (Ctl (Unit) (Int)) :=
 (kU x_5).bind fun r_14=>bif (r_14 != 0)then some (.ret r_14)else (bif (decide ((k_3:Int) > 0))then (idx l_1 (w64 ((k_3:Int) - 1))).bind fun y_20=>some (sLe x_5.Key y_20.Key)else some false).bind fun v_17=>bif v_17 then some (.ret 7)else some (.go ())
theorem qp (l_1:(List Entry)) (k_3:Nat) (x_5:Entry) (s_8:Unit):Le (jb l_1 k_3 x_5 s_8) (fu l_1 k_3 x_5 s_8):=by
 unfold jb fu
 repeat' (with_reducible first | exact Le.refl _ | exact uD _ | refine Le.loop (fun _ => ?_) | refine Le.forL (fun _ _ _ => ?_) | refine Le.thenC (fun _ => ?_) (fun _ => ?_) | refine Le.cond ?_ ?_ | refine Le.bind ?_ (fun _ => ?_))
def j6 (l_1:(List Entry)):Option (Int) :=
 bif (decide ((l_1.length:Int) > 200))then some 2 else (forL l_1 () (fun k x s=>jb l_1 k x s)).bind fun o_11=>thenC o_11 (fun s_8=>some 0) (fun r=>some r)
theorem sj (l_1:(List Entry)):Le (j6 l_1) (gu l_1):=by
 unfold j6 gu
 repeat' (with_reducible first | exact Le.refl _ | exact qp _ _ _ _ | refine Le.loop (fun _ => ?_) | refine Le.forL (fun _ _ _ => ?_) | refine Le.thenC (fun _ => ?_) (fun _ => ?_) | refine Le.cond ?_ ?_ | refine Le.bind ?_ (fun _ => ?_))
def ik (x_1:(List Int)) (target_2:Int):Option (Int×Bool) :=
 (oZ (0,(x_1.length:Int)) (fun s=>eG x_1 target_2 s)).bind fun o_11=>thenC o_11 (fun s_8=>(bif (decide (s_8.1 < (x_1.length:Int)))then (idx x_1 s_8.1).bind fun y_24=>bif (y_24 == target_2)then some true else (idx x_1 s_8.1).bind fun y_27=>(iI y_27).bind fun r_29=>bif r_29 then (iI target_2).bind fun r_32=>some r_32 else some false else some false).bind fun v_21=>some (s_8.1,v_21)) (fun _=>none)
theorem oC (x_1:(List Int)) (target_2:Int):Le (ik x_1 target_2) (dZ x_1 target_2):=by
 unfold ik dZ
 repeat' (with_reducible first | exact Le.refl _ | refine Le.loop (fun _ => ?_) | refine Le.forL (fun _ _ _ => ?_) | refine Le.thenC (fun _ => ?_) (fun _ => ?_) | refine Le.cond ?_ ?_ | refine Le.bind ?_ (fun _ => ?_))
def pW (e_1:Entry) (d_2:Int):Option (Bool) :=
 ((aO d_2 e_1.First e_1.Last).bind fun r_6=>bif r_6 then some true else (Ht .i64 (w64 (d_2 - e_1.First)) e_1.Every).bind fun q_9=>bif (q_9 != 0)then some true else (Dz .i64 1 (d_2.tmod 7)).bind fun q_12=>some ((uj .i64 e_1.Days q_12) == 0)).bind fun v_4=>bif v_4 then some false else (ik e_1.Except d_2).bind fun r_15=>some (!r_15.2)
theorem yL (e_1:Entry) (d_2:Int):Le (pW e_1 d_2) (lv e_1 d_2):=by
 unfold pW lv
 repeat' (with_reducible first | exact Le.refl _ | exact oC _ _ | refine Le.loop (fun _ => ?_) | refine Le.forL (fun _ _ _ => ?_) | refine Le.thenC (fun _ => ?_) (fun _ => ?_) | refine Le.cond ?_ ?_ | refine Le.bind ?_ (fun _ => ?_))
def mJ (wv_3:Window) (zone_2:Int) (e_1:Entry) (s_15:(List Window)×Int):Option (Ctl ((List Window)×Int) (Unit)) :=
 bif (decide (s_15.2≤(eZ (w64 ((w64 ((w64 (wv_3.To + (w64 (zone_2 * 60000)))).tdiv 86400000)) + 1)) e_1.Last)))then (pW e_1 s_15.2).bind fun r_24=>bif (!r_24)then some (.go (s_15.1,(w64 (s_15.2 + 1))))else (mD e_1 zone_2 s_15.2).bind fun r_27=>(bif (decide (r_27.From < wv_3.To))then some (decide (r_27.To > wv_3.From))else some false).bind fun v_30=>(bif v_30 then (ma s_15.1 ([r_27]:List Window)).bind fun a_37=>some a_37 else some s_15.1).bind fun v_33=>some (.go (v_33,(w64 (s_15.2 + 1))))else some (.brk (s_15.1,s_15.2))
theorem vZ (wv_3:Window) (zone_2:Int) (e_1:Entry) (s_15:(List Window)×Int):Le (mJ wv_3 zone_2 e_1 s_15) (jw wv_3 zone_2 e_1 s_15):=by
 unfold mJ jw
 repeat' (with_reducible first | exact Le.refl _ | exact yL _ _ | refine Le.loop (fun _ => ?_) | refine Le.forL (fun _ _ _ => ?_) | refine Le.thenC (fun _ => ?_) (fun _ => ?_) | refine Le.cond ?_ ?_ | refine Le.bind ?_ (fun _ => ?_))
def pQ (e_1:Entry) (zone_2:Int) (wv_3:Window):Option ((List Window)) :=
 (bif e_1.Gone then some true else some (decide (wv_3.From≥wv_3.To))).bind fun v_6=>bif v_6 then some ([]:(List Window))else (oZ (([]:List Window),(bS (w64 ((w64 ((w64 (wv_3.From + (w64 (zone_2 * 60000)))).tdiv 86400000)) - 2)) e_1.First)) (fun s=>mJ wv_3 zone_2 e_1 s)).bind fun o_21=>thenC o_21 (fun s_15=>some s_15.1) (fun _=>none)
theorem yQ (e_1:Entry) (zone_2:Int) (wv_3:Window):Le (pQ e_1 zone_2 wv_3) (lh e_1 zone_2 wv_3):=by
 unfold pQ lh
 repeat' (with_reducible first | exact Le.refl _ | exact vZ _ _ _ _ | refine Le.loop (fun _ => ?_) | refine Le.forL (fun _ _ _ => ?_) | refine Le.thenC (fun _ => ?_) (fun _ => ?_) | refine Le.cond ?_ ?_ | refine Le.bind ?_ (fun _ => ?_))
def qa (e_1:Entry) (zone_2:Int) (wv_3:Window):Option ((List Window)×Int) :=
 (j6 ([e_1]:List Entry)).bind fun r_6=>bif (r_6 != 0)then some (([]:(List Window)),r_6)else (aO zone_2 (-1440) 1440).bind fun r_9=>bif r_9 then some (([]:(List Window)),1)else (jh wv_3).bind fun r_12=>bif (r_12 != 0)then some (([]:(List Window)),r_12)else (pQ e_1 zone_2 wv_3).bind fun r_15=>(forL (List.range ((r_15.length:Int)).toNat) r_15 (fun k x s=>kS wv_3 k x s)).bind fun o_27=>thenC o_27 (fun s_24=>some (s_24,0)) (fun _=>none)
theorem zq (e_1:Entry) (zone_2:Int) (wv_3:Window):Le (qa e_1 zone_2 wv_3) (lC e_1 zone_2 wv_3):=by
 unfold qa lC
 repeat' (with_reducible first | exact Le.refl _ | exact sj _ | exact yQ _ _ _ | refine Le.loop (fun _ => ?_) | refine Le.forL (fun _ _ _ => ?_) | refine Le.thenC (fun _ => ?_) (fun _ => ?_) | refine Le.cond ?_ ?_ | refine Le.bind ?_ (fun _ => ?_))
def mO (l_1:(List ByteArray)):Option (Int) :=
 bif (decide ((l_1.length:Int) > 20))then some 2 else (lL l_1).bind fun r_3=>some r_3
theorem vF (l_1:(List ByteArray)):Le (mO l_1) (jB l_1):=by
 unfold mO jB
 repeat' (with_reducible first | exact Le.refl _ | exact qK _ | refine Le.loop (fun _ => ?_) | refine Le.forL (fun _ _ _ => ?_) | refine Le.thenC (fun _ => ?_) (fun _ => ?_) | refine Le.cond ?_ ?_ | refine Le.bind ?_ (fun _ => ?_))
def iO (l_1:(List Campaign)) (k_3:Nat) (x_5:Campaign) (s_8:Unit):Option (Ctl (Unit) (Int)) :=
 ((gD x_5.Key).bind fun r_16=>bif (!r_16)then some true else bif (sNe x_5.Class (⟨#[]⟩:ByteArray))then (gD x_5.Class).bind fun r_20=>some (!r_20)else some false).bind fun v_14=>bif v_14 then some (.ret 5)else (bif (decide ((k_3:Int) > 0))then (idx l_1 (w64 ((k_3:Int) - 1))).bind fun y_26=>some (sLe x_5.Key y_26.Key)else some false).bind fun v_23=>bif v_23 then some (.ret 7)else ((nJ x_5.Time).bind fun r_31=>bif (!r_31)then some true else (aO x_5.Goal 0 1000000).bind fun r_34=>bif r_34 then some true else (aO x_5.Most 0 1000000).bind fun r_37=>bif r_37 then some true else (aO x_5.Cents 0 1000000000).bind fun r_40=>some r_40).bind fun v_29=>bif v_29 then some (.ret 1)else (mO x_5.Tags).bind fun r_43=>bif (r_43 != 0)then some (.ret r_43)else some (.go ())
theorem p9 (l_1:(List Campaign)) (k_3:Nat) (x_5:Campaign) (s_8:Unit):Le (iO l_1 k_3 x_5 s_8) (eU l_1 k_3 x_5 s_8):=by
 unfold iO eU
 repeat' (with_reducible first | exact Le.refl _ | exact jg _ | exact vF _ | refine Le.loop (fun _ => ?_) | refine Le.forL (fun _ _ _ => ?_) | refine Le.thenC (fun _ => ?_) (fun _ => ?_) | refine Le.cond ?_ ?_ | refine Le.bind ?_ (fun _ => ?_))
def jV (l_1:(List Campaign)):Option (Int) :=
 bif (decide ((l_1.length:Int) > 30))then some 2 else (forL l_1 () (fun k x s=>iO l_1 k x s)).bind fun o_11=>thenC o_11 (fun s_8=>some 0) (fun r=>some r)
theorem rF (l_1:(List Campaign)):Le (jV l_1) (fP l_1):=by
 unfold jV fP
 repeat' (with_reducible first | exact Le.refl _ | exact p9 _ _ _ _ | refine Le.loop (fun _ => ?_) | refine Le.forL (fun _ _ _ => ?_) | refine Le.thenC (fun _ => ?_) (fun _ => ?_) | refine Le.cond ?_ ?_ | refine Le.bind ?_ (fun _ => ?_))
def uG (c_1:Campaign) (atv_2:Int):Option (Int×Int) :=
 (jV ([c_1]:List Campaign)).bind fun r_4=>bif (r_4 != 0)then some (0,r_4)else (dF atv_2).bind fun r_7=>bif (!r_7)then some (0,1)else (rO c_1 atv_2).bind fun r_10=>some (r_10,0)
theorem Dv (c_1:Campaign) (atv_2:Int):Le (uG c_1 atv_2) (o8 c_1 atv_2):=by
 unfold uG o8
 repeat' (with_reducible first | exact Le.refl _ | exact rF _ | refine Le.loop (fun _ => ?_) | refine Le.forL (fun _ _ _ => ?_) | refine Le.thenC (fun _ => ?_) (fun _ => ?_) | refine Le.cond ?_ ?_ | refine Le.bind ?_ (fun _ => ?_))
def lI (l_1:(List Beat)) (k_3:Nat) (x_5:Beat) (s_8:Unit):Option (Ctl (Unit) (Int)) :=
 (gD x_5.Player).bind fun r_14=>bif (!r_14)then some (.ret 5)else ((dF x_5.At).bind fun r_19=>bif (!r_19)then some true else (aO x_5.Clock 0 345686399999).bind fun r_22=>some r_22).bind fun v_17=>bif v_17 then some (.ret 1)else (bif (decide ((k_3:Int) > 0))then (idx l_1 (w64 ((k_3:Int) - 1))).bind fun y_28=>(j5 y_28 x_5).bind fun r_30=>some (decide (r_30≥0))else some false).bind fun v_25=>bif v_25 then some (.ret 7)else (bif (decide ((k_3:Int) > 0))then (idx l_1 (w64 ((k_3:Int) - 1))).bind fun y_36=>bif (sEq x_5.Player y_36.Player)then (idx l_1 (w64 ((k_3:Int) - 1))).bind fun y_39=>some (decide (x_5.Clock≤y_39.Clock))else some false else some false).bind fun v_33=>bif v_33 then some (.ret 16)else some (.go ())
theorem tV (l_1:(List Beat)) (k_3:Nat) (x_5:Beat) (s_8:Unit):Le (lI l_1 k_3 x_5 s_8) (iA l_1 k_3 x_5 s_8):=by
 unfold lI iA
 repeat' (with_reducible first | exact Le.refl _ | exact jg _ | refine Le.loop (fun _ => ?_) | refine Le.forL (fun _ _ _ => ?_) | refine Le.thenC (fun _ => ?_) (fun _ => ?_) | refine Le.cond ?_ ?_ | refine Le.bind ?_ (fun _ => ?_))
def nO (l_1:(List Beat)):Option (Int) :=
 bif (decide ((l_1.length:Int) > 500))then some 2 else (forL l_1 () (fun k x s=>lI l_1 k x s)).bind fun o_11=>thenC o_11 (fun s_8=>some 0) (fun r=>some r)
theorem xe (l_1:(List Beat)):Le (nO l_1) (jX l_1):=by
 unfold nO jX
 repeat' (with_reducible first | exact Le.refl _ | exact tV _ _ _ _ | refine Le.loop (fun _ => ?_) | refine Le.forL (fun _ _ _ => ?_) | refine Le.thenC (fun _ => ?_) (fun _ => ?_) | refine Le.cond ?_ ?_ | refine Le.bind ?_ (fun _ => ?_))
def r9 (l_1:(List Beat_)) (n_2:Int):Option (Int×Int) :=
 bif ((l_1.length:Int) == 0)then some (0,8)else (oZ 0 (fun s=>mE l_1 n_2 s)).bind fun o_12=>thenC o_12 (fun s_9=>bif (s_9 == 0)then (idx l_1 0).bind fun y_21=>(idx l_1 0).bind fun y_23=>(dF (w64 (y_21.f_to - (w64 (y_23.f_from - n_2))))).bind fun r_25=>bif (!r_25)then some (0,11)else some ((w64 (y_21.f_to - (w64 (y_23.f_from - n_2)))),0)else bif (s_9 == (l_1.length:Int))then (idx l_1 (w64 (s_9 - 1))).bind fun y_29=>(idx l_1 (w64 (s_9 - 1))).bind fun y_31=>(dF (w64 ((w64 (y_29.f_to + n_2)) - y_31.f_from))).bind fun r_33=>bif (!r_33)then some (0,11)else some ((w64 ((w64 (y_29.f_to + n_2)) - y_31.f_from)),0)else (idx l_1 (w64 (s_9 - 1))).bind fun y_36=>(idx l_1 s_9).bind fun y_38=>(bif (decide ((w64 (y_38.f_from - y_36.f_from)) > 2592000000))then some true else some (decide ((w64 (y_38.f_to - y_36.f_to)) > 2592000000))).bind fun v_42=>bif v_42 then some (0,2)else (Ad .i64 (w64 ((w64 (n_2 - y_36.f_from)) * (w64 (y_38.f_to - y_36.f_to)))) (w64 (y_38.f_from - y_36.f_from))).bind fun q_46=>(dF (w64 (y_36.f_to + q_46))).bind fun r_48=>bif (!r_48)then some (0,11)else some ((w64 (y_36.f_to + q_46)),0)) (fun _=>none)
theorem BC (l_1:(List Beat_)) (n_2:Int):Le (r9 l_1 n_2) (nQ l_1 n_2):=by
 unfold r9 nQ
 repeat' (with_reducible first | exact Le.refl _ | refine Le.loop (fun _ => ?_) | refine Le.forL (fun _ _ _ => ?_) | refine Le.thenC (fun _ => ?_) (fun _ => ?_) | refine Le.cond ?_ ?_ | refine Le.bind ?_ (fun _ => ?_))
def tZ (l_1:(List Beat)) (player_2:ByteArray) (n_3:Int) (back_4:Bool):Option (Int×Int) :=
 (nO l_1).bind fun r_5=>bif (r_5 != 0)then some (0,r_5)else (gD player_2).bind fun r_8=>bif (!r_8)then some (0,5)else (dF n_3).bind fun r_11=>bif (!r_11)then some (0,1)else (oL l_1 player_2 back_4).bind fun r_14=>(r9 r_14 n_3).bind fun r_16=>some (r_16.1,r_16.2)
theorem CG (l_1:(List Beat)) (player_2:ByteArray) (n_3:Int) (back_4:Bool):Le (tZ l_1 player_2 n_3 back_4) (oW l_1 player_2 n_3 back_4):=by
 unfold tZ oW
 repeat' (with_reducible first | exact Le.refl _ | exact jg _ | exact xe _ | exact BC _ _ | refine Le.loop (fun _ => ?_) | refine Le.forL (fun _ _ _ => ?_) | refine Le.thenC (fun _ => ?_) (fun _ => ?_) | refine Le.cond ?_ ?_ | refine Le.bind ?_ (fun _ => ?_))
def uP (l_1:(List Beat)) (player_2:ByteArray) (clock_3:Int):Option (Int×Int) :=
 (tZ l_1 player_2 clock_3 false).bind fun r_4=>some (r_4.1,r_4.2)
theorem Cw (l_1:(List Beat)) (player_2:ByteArray) (clock_3:Int):Le (uP l_1 player_2 clock_3) (o5 l_1 player_2 clock_3):=by
 unfold uP o5
 repeat' (with_reducible first | exact Le.refl _ | exact CG _ _ _ _ | refine Le.loop (fun _ => ?_) | refine Le.forL (fun _ _ _ => ?_) | refine Le.thenC (fun _ => ?_) (fun _ => ?_) | refine Le.cond ?_ ?_ | refine Le.bind ?_ (fun _ => ?_))
def l7 (a_1:Alert) (k_4:Nat) (x_6:ByteArray) (s_9:Unit):Option (Ctl (Unit) (Int)) :=
 (gD x_6).bind fun r_14=>bif (!r_14)then some (.ret 5)else (bif (decide ((k_4:Int) > 0))then (idx a_1.Refs (w64 ((k_4:Int) - 1))).bind fun y_20=>some (sLe x_6 y_20)else some false).bind fun v_17=>bif v_17 then some (.ret 7)else bif (sEq x_6 a_1.Id)then some (.ret 14)else some (.go ())
theorem u6 (a_1:Alert) (k_4:Nat) (x_6:ByteArray) (s_9:Unit):Le (l7 a_1 k_4 x_6 s_9) (iW a_1 k_4 x_6 s_9):=by
 unfold l7 iW
 repeat' (with_reducible first | exact Le.refl _ | exact jg _ | refine Le.loop (fun _ => ?_) | refine Le.forL (fun _ _ _ => ?_) | refine Le.thenC (fun _ => ?_) (fun _ => ?_) | refine Le.cond ?_ ?_ | refine Le.bind ?_ (fun _ => ?_))
def oK (a_1:Alert):Option (Int) :=
 bif (decide ((a_1.Refs.length:Int) > 20))then some 2 else (forL a_1.Refs () (fun k x s=>l7 a_1 k x s)).bind fun o_12=>thenC o_12 (fun s_9=>bif (!((a_1.Kind == 1) == ((a_1.Refs.length:Int) == 0)))then some 3 else some 0) (fun r=>some r)
theorem xX (a_1:Alert):Le (oK a_1) (kG a_1):=by
 unfold oK kG
 repeat' (with_reducible first | exact Le.refl _ | exact u6 _ _ _ _ | refine Le.loop (fun _ => ?_) | refine Le.forL (fun _ _ _ => ?_) | refine Le.thenC (fun _ => ?_) (fun _ => ?_) | refine Le.cond ?_ ?_ | refine Le.bind ?_ (fun _ => ?_))
def ig (s_7:ByteArray):Option (Ctl (ByteArray) (Unit)) :=
 bif (decide ((s_7.size:Int) > 0))then (nU s_7 0).bind fun b_13=>bif (decide ((b_13.toNat:Int) < 128))then (qZ s_7 1 s_7.size).bind fun y_16=>(bif (decide ((y_16.size:Int) > 8))then (bA y_16).bind fun r_21=>some ((uj .u64 r_21 9259542123273814144) == 0)else some false).bind fun v_18=>(bif v_18 then (qZ y_16 8 y_16.size).bind fun y_26=>(bif (decide ((y_26.size:Int) > 16))then (bA y_26).bind fun r_31=>(qZ y_26 8 y_26.size).bind fun y_33=>(bA y_33).bind fun r_35=>some ((uj .u64 (orI .u64 r_31 r_35) 9259542123273814144) == 0)else some false).bind fun v_28=>bif v_28 then (qZ y_26 16 y_26.size).bind fun y_38=>(oZ y_38 (fun s=>fF s)).bind fun o_48=>thenC o_48 (fun s_45=>some s_45) (fun _=>none)else some y_26 else some y_16).bind fun v_23=>some (.go v_23)else none else some (.brk s_7)
theorem oq (s_7:ByteArray):Le (ig s_7) (ek s_7):=by
 unfold ig ek
 repeat' (with_reducible first | exact Le.refl _ | refine Le.loop (fun _ => ?_) | refine Le.forL (fun _ _ _ => ?_) | refine Le.thenC (fun _ => ?_) (fun _ => ?_) | refine Le.cond ?_ ?_ | refine Le.bind ?_ (fun _ => ?_))
def ja (s_1:ByteArray):Option (Bool) :=
 (oZ s_1 (fun s=>ig s)).bind fun o_10=>thenC o_10 (fun s_7=>some true) (fun _=>none)
theorem qw (s_1:ByteArray):Le (ja s_1) (fB s_1):=by
 unfold ja fB
 repeat' (with_reducible first | exact Le.refl _ | exact oq _ | refine Le.loop (fun _ => ?_) | refine Le.forL (fun _ _ _ => ?_) | refine Le.thenC (fun _ => ?_) (fun _ => ?_) | refine Le.cond ?_ ?_ | refine Le.bind ?_ (fun _ => ?_))
def kv (s_1:ByteArray) (c_2:Int):Option (ByteArray) :=
 (oZ s_1 (fun s=>gH c_2 s)).bind fun o_11=>thenC o_11 (fun s_8=>some s_8) (fun _=>none)
theorem su (s_1:ByteArray) (c_2:Int):Le (kv s_1 c_2) (strings_trimRightByte s_1 c_2):=by
 unfold kv strings_trimRightByte
 repeat' (with_reducible first | exact Le.refl _ | refine Le.loop (fun _ => ?_) | refine Le.forL (fun _ _ _ => ?_) | refine Le.thenC (fun _ => ?_) (fun _ => ?_) | refine Le.cond ?_ ?_ | refine Le.bind ?_ (fun _ => ?_))
def kM (s_1:ByteArray) (c_2:Int):Option (ByteArray) :=
 (oZ s_1 (fun s=>ib c_2 s)).bind fun o_11=>thenC o_11 (fun s_8=>some s_8) (fun _=>none)
theorem tq (s_1:ByteArray) (c_2:Int):Le (kM s_1 c_2) (strings_trimLeftByte s_1 c_2):=by
 unfold kM strings_trimLeftByte
 repeat' (with_reducible first | exact Le.refl _ | refine Le.loop (fun _ => ?_) | refine Le.forL (fun _ _ _ => ?_) | refine Le.thenC (fun _ => ?_) (fun _ => ?_) | refine Le.cond ?_ ?_ | refine Le.bind ?_ (fun _ => ?_))
def sD (s_1:ByteArray) (cutset_2:ByteArray):Option (ByteArray) :=
 (bif (sEq s_1 (⟨#[]⟩:ByteArray))then some true else some (sEq cutset_2 (⟨#[]⟩:ByteArray))).bind fun v_3=>bif v_3 then some s_1 else (bif ((cutset_2.size:Int) == 1)then (nU cutset_2 0).bind fun b_10=>some (decide ((b_10.toNat:Int) < 128))else some false).bind fun v_7=>bif v_7 then (nU cutset_2 0).bind fun b_13=>(kv s_1 (b_13.toNat:Int)).bind fun r_15=>(nU cutset_2 0).bind fun b_17=>(kM r_15 (b_17.toNat:Int)).bind fun r_19=>some r_19 else none
theorem Bp (s_1:ByteArray) (cutset_2:ByteArray):Le (sD s_1 cutset_2) (nG s_1 cutset_2):=by
 unfold sD nG
 repeat' (with_reducible first | exact Le.refl _ | exact su _ _ | exact tq _ _ | refine Le.loop (fun _ => ?_) | refine Le.forL (fun _ _ _ => ?_) | refine Le.thenC (fun _ => ?_) (fun _ => ?_) | refine Le.cond ?_ ?_ | refine Le.bind ?_ (fun _ => ?_))
def uE (s_1:ByteArray):Option (Bool) :=
 (oZ 0 (fun s=>nP s_1 s)).bind fun o_10=>thenC o_10 (fun s_7=>((ja s_1).bind fun r_23=>bif r_23 then (sD s_1 (⟨#[32]⟩:ByteArray)).bind fun r_26=>bif (sEq r_26 s_1)then (strings_Contains s_1 (⟨#[32,32]⟩:ByteArray)).bind fun r_29=>some (!r_29)else some false else some false).bind fun v_21=>some v_21) (fun r=>some r)
theorem CK (s_1:ByteArray):Le (uE s_1) (o7 s_1):=by
 unfold uE o7
 repeat' (with_reducible first | exact Le.refl _ | exact qw _ | exact Bp _ _ | refine Le.loop (fun _ => ?_) | refine Le.forL (fun _ _ _ => ?_) | refine Le.thenC (fun _ => ?_) (fun _ => ?_) | refine Le.cond ?_ ?_ | refine Le.bind ?_ (fun _ => ?_))
def nH (a_1:Alert):Option (Int) :=
 ((gD a_1.Id).bind fun r_5=>bif (!r_5)then some true else (gD a_1.Sender).bind fun r_8=>some (!r_8)).bind fun v_3=>bif v_3 then some 5 else (aO a_1.Kind 1 3).bind fun r_11=>bif r_11 then some 4 else (oK a_1).bind fun r_14=>bif (r_14 != 0)then some r_14 else ((dF a_1.At).bind fun r_19=>bif (!r_19)then some true else (aO a_1.Until (w64 (a_1.At + 1)) (w64 (a_1.At + 2592000000))).bind fun r_22=>bif r_22 then some true else (aO a_1.Weight 1 9).bind fun r_25=>some r_25).bind fun v_17=>bif v_17 then some 1 else bif (decide ((a_1.Areas.length:Int) > 20))then some 2 else (forL a_1.Areas () (fun k x s=>jH k x s)).bind fun o_37=>thenC o_37 (fun s_34=>bif (!((a_1.Kind == 3) == ((a_1.Areas.length:Int) == 0)))then some 3 else bif (decide ((a_1.Text.size:Int) > 500))then some 2 else ((uE a_1.Text).bind fun r_47=>bif (!r_47)then some true else bif (sEq a_1.Text (⟨#[]⟩:ByteArray))then some (!(a_1.Kind == 3))else some false).bind fun v_45=>bif v_45 then some 3 else some 0) (fun r=>some r)
theorem xq (a_1:Alert):Le (nH a_1) (jY a_1):=by
 unfold nH jY
 repeat' (with_reducible first | exact Le.refl _ | exact jg _ | exact xX _ | exact CK _ | refine Le.loop (fun _ => ?_) | refine Le.forL (fun _ _ _ => ?_) | refine Le.thenC (fun _ => ?_) (fun _ => ?_) | refine Le.cond ?_ ?_ | refine Le.bind ?_ (fun _ => ?_))
def kP (l_1:(List Alert)) (k_3:Nat) (x_5:Alert) (s_8:Unit):Option (Ctl (Unit) (Int)) :=
 (nH x_5).bind fun r_14=>bif (r_14 != 0)then some (.ret r_14)else (bif (decide ((k_3:Int) > 0))then (idx l_1 (w64 ((k_3:Int) - 1))).bind fun y_20=>(oM y_20 x_5).bind fun r_22=>some (decide (r_22≥0))else some false).bind fun v_17=>bif v_17 then some (.ret 7)else some (.go ())
theorem sW (l_1:(List Alert)) (k_3:Nat) (x_5:Alert) (s_8:Unit):Le (kP l_1 k_3 x_5 s_8) (gX l_1 k_3 x_5 s_8):=by
 unfold kP gX
 repeat' (with_reducible first | exact Le.refl _ | exact xq _ | refine Le.loop (fun _ => ?_) | refine Le.forL (fun _ _ _ => ?_) | refine Le.thenC (fun _ => ?_) (fun _ => ?_) | refine Le.cond ?_ ?_ | refine Le.bind ?_ (fun _ => ?_))
def mV (l_1:(List Alert)):Option (Int) :=
 bif (decide ((l_1.length:Int) > 300))then some 2 else (forL l_1 () (fun k x s=>kP l_1 k x s)).bind fun o_11=>thenC o_11 (fun s_8=>(forL l_1 ([]:List (ByteArray×Bool)) (fun k x s=>je k x s)).bind fun o_34=>thenC o_34 (fun s_31=>some 0) (fun r=>some r)) (fun r=>some r)
theorem vU (l_1:(List Alert)):Le (mV l_1) (jk l_1):=by
 unfold mV jk
 repeat' (with_reducible first | exact Le.refl _ | exact sW _ _ _ _ | refine Le.loop (fun _ => ?_) | refine Le.forL (fun _ _ _ => ?_) | refine Le.thenC (fun _ => ?_) (fun _ => ?_) | refine Le.cond ?_ ?_ | refine Le.bind ?_ (fun _ => ?_))
def kW (l_1:(List Post)) (k_3:Nat) (x_5:Post) (s_8:Unit):Option (Ctl (Unit) (Int)) :=
 (gD x_5.Player).bind fun r_14=>bif (!r_14)then some (.ret 5)else ((aO x_5.X (-100000) 100000).bind fun r_19=>bif r_19 then some true else (aO x_5.Y (-100000) 100000).bind fun r_22=>some r_22).bind fun v_17=>bif v_17 then some (.ret 1)else (bif (decide ((k_3:Int) > 0))then (idx l_1 (w64 ((k_3:Int) - 1))).bind fun y_28=>some (sLe x_5.Player y_28.Player)else some false).bind fun v_25=>bif v_25 then some (.ret 7)else some (.go ())
theorem ug (l_1:(List Post)) (k_3:Nat) (x_5:Post) (s_8:Unit):Le (kW l_1 k_3 x_5 s_8) (iy l_1 k_3 x_5 s_8):=by
 unfold kW iy
 repeat' (with_reducible first | exact Le.refl _ | exact jg _ | refine Le.loop (fun _ => ?_) | refine Le.forL (fun _ _ _ => ?_) | refine Le.thenC (fun _ => ?_) (fun _ => ?_) | refine Le.cond ?_ ?_ | refine Le.bind ?_ (fun _ => ?_))
def nA (l_1:(List Post)):Option (Int) :=
 bif (decide ((l_1.length:Int) > 500))then some 2 else (forL l_1 () (fun k x s=>kW l_1 k x s)).bind fun o_11=>thenC o_11 (fun s_8=>some 0) (fun r=>some r)
theorem xw (l_1:(List Post)):Le (nA l_1) (jS l_1):=by
 unfold nA jS
 repeat' (with_reducible first | exact Le.refl _ | exact ug _ _ _ _ | refine Le.loop (fun _ => ?_) | refine Le.forL (fun _ _ _ => ?_) | refine Le.thenC (fun _ => ?_) (fun _ => ?_) | refine Le.cond ?_ ?_ | refine Le.bind ?_ (fun _ => ?_))
def og (l_1:(List Alert)) (posts_2:(List Post)):Option (Int) :=
 (mV l_1).bind fun r_3=>bif (r_3 != 0)then some r_3 else (nA posts_2).bind fun r_6=>some r_6
theorem xV (l_1:(List Alert)) (posts_2:(List Post)):Le (og l_1 posts_2) (kC l_1 posts_2):=by
 unfold og kC
 repeat' (with_reducible first | exact Le.refl _ | exact vU _ | exact xw _ | refine Le.loop (fun _ => ?_) | refine Le.forL (fun _ _ _ => ?_) | refine Le.thenC (fun _ => ?_) (fun _ => ?_) | refine Le.cond ?_ ?_ | refine Le.bind ?_ (fun _ => ?_))
def qI (a_1:Alert) (p_2:Post):Option (Bool×Int) :=
 (og ([a_1]:List Alert) ([p_2]:List Post)).bind fun r_5=>bif (r_5 != 0)then some (false,r_5)else (oN a_1 p_2).bind fun r_8=>some (r_8,0)
theorem Aq (a_1:Alert) (p_2:Post):Le (qI a_1 p_2) (mr a_1 p_2):=by
 unfold qI mr
 repeat' (with_reducible first | exact Le.refl _ | exact xV _ _ | refine Le.loop (fun _ => ?_) | refine Le.forL (fun _ _ _ => ?_) | refine Le.thenC (fun _ => ?_) (fun _ => ?_) | refine Le.cond ?_ ?_ | refine Le.bind ?_ (fun _ => ?_))
def wu  : Option (Bool) :=
 (uq ([(⟨0,0,2,2⟩:Rect),(⟨1,1,2,2⟩:Rect)]:List Rect)).bind fun r_1=>(qa (⟨(⟨#[97]⟩:ByteArray),(⟨#[98]⟩:ByteArray),0,0,0,1,127,([]:List Int),1,2,0,([]:List ByteArray),false⟩:Entry) 0 (⟨0,86400000⟩:Window)).bind fun r_3=>(uG (⟨(⟨#[97]⟩:ByteArray),(⟨#[]⟩:ByteArray),(⟨0,100⟩:Window),([]:List ByteArray),10,0,0⟩:Campaign) 50).bind fun r_5=>(uP ([(⟨(⟨#[112]⟩:ByteArray),0,100⟩:Beat),(⟨(⟨#[112]⟩:ByteArray),1000,1300⟩:Beat)]:List Beat) (⟨#[112]⟩:ByteArray) 700).bind fun r_7=>(qI (⟨(⟨#[97]⟩:ByteArray),(⟨#[115]⟩:ByteArray),1,([]:List ByteArray),0,5,1,([(⟨0,0,2,2⟩:Rect)]:List Rect),(⟨#[120]⟩:ByteArray)⟩:Alert) (⟨(⟨#[112]⟩:ByteArray),1,1⟩:Post)).bind fun r_10=>((qz ([r_1.2,r_3.2,r_5.2,r_7.2,r_10.2]:List Int)).bind fun r_14=>bif (r_14 == 0)then bif (r_1.1 == 7)then bif ((r_3.1.length:Int) == 1)then bif (r_5.1 == 5)then bif (r_7.1 == 500)then some r_10.1 else some false else some false else some false else some false else some false).bind fun v_12=>some v_12
theorem Eh  : Le (wu) (oG):=by
 unfold wu oG
 repeat' (with_reducible first | exact Le.refl _ | exact DT _ | exact zq _ _ _ | exact Dv _ _ | exact Cw _ _ _ | exact Aq _ _ | refine Le.loop (fun _ => ?_) | refine Le.forL (fun _ _ _ => ?_) | refine Le.thenC (fun _ => ?_) (fun _ => ?_) | refine Le.cond ?_ ?_ | refine Le.bind ?_ (fun _ => ?_))
end Go.Proofs.YtjhcehhmdmbleaaGreatDoor.Law

open Go Go.Eng
namespace Go.Proofs.YtjhcehhmdmbleaaGreatDoor.Law
set_option linter.unusedVariables false
set_option maxRecDepth 100000
theorem ready_F:wu=some true:=by kernel_rfl
theorem NK:oG=some true:=Eh _ ready_F
end Go.Proofs.YtjhcehhmdmbleaaGreatDoor.Law

open Go Go.Eng
namespace Go.Proofs.YtjhcehhmdmbleaaGreatDoor.Law
set_option linter.unusedVariables false
set_option linter.unusedSimpArgs false
theorem KJ {α σ ρ:Type} {body:Nat→α→σ→Option (Ctl σ ρ)} (I:Nat→σ→Prop) (xs:List α):∀ (l:List α) (k:Nat) (s:σ),xs.drop k=l→k≤xs.length→(∀ k x s,xs[k]? = some x→I k s → ∃ s',body k x s=some (.go s')∧I (k + 1) s')→I k s → ∃ s',forR body l k s=some (.go s')∧I xs.length s'
 | [],k,s,hd,hk,h,hi=>by
  have:=List.drop_eq_nil_iff.1 hd
  obtain rfl:k=xs.length:=by omega
  exact⟨s,rfl,hi⟩
 | x::l,k,s,hd,hk,h,hi=>by
  obtain ⟨s1,h1,h2⟩:=h k x s (nM hd) hi
  obtain ⟨s2,h3,h4⟩:=KJ I xs l (k + 1) s1 (aN hd) (by have:=oQ hd; omega) h h2
  exact⟨s2,by rw [forR,h1,Option.bind_some]; exact h3,h4⟩
theorem forL_at {α σ ρ:Type} {body:Nat→α→σ→Option (Ctl σ ρ)} (I:Nat→σ→Prop) {xs:List α} {s:σ} (hl:xs.length≤1000000000000) (h:∀ k x s,xs[k]? = some x→I k s → ∃ s',body k x s=some (.go s')∧I (k + 1) s') (h0:I 0 s):∃ s',forL xs s body=some (.go s')∧I xs.length s':=by
 rw [bW hl]
 exact KJ I xs xs 0 s rfl (Nat.zero_le _) h h0
theorem NB {α β:Type} {f:α→β} {ks:List β} {k:Nat} {x:β} {l:List α} (hx:ks[k]? = some x) (h:(l.map f).Sublist (ks.take k)):(l.map f).Sublist (ks.take (k + 1)) ∧ ∀ c,f c=x→((l ++ [c]).map f).Sublist (ks.take (k + 1)):=by
 have e:ks.take (k + 1)=ks.take k ++ [x]:=by
  rw [List.take_add_one,hx]; rfl
 rw [e]
 refine⟨h.trans (List.sublist_append_left _ _),fun c hc => ?_⟩
 rw [List.map_append]
 refine h.append ?_
 rw [List.map_cons,hc]
 exact List.Sublist.refl _
theorem zK {a b:ByteArray} (h:sLt a b=true):lt a b:=(KE a b).1 h
end Go.Proofs.YtjhcehhmdmbleaaGreatDoor.Law

open Go Go.Eng
namespace Go.Proofs.YtjhcehhmdmbleaaGreatDoor.Law
set_option linter.unusedVariables false
set_option linter.unusedSimpArgs false
end Go.Proofs.YtjhcehhmdmbleaaGreatDoor.Law

open Go Go.Eng
namespace Go.Proofs.YtjhcehhmdmbleaaGreatDoor.Law
set_option linter.unusedVariables false
set_option linter.unusedSimpArgs false
def Ae (w:Wall) (last:ByteArray) (s:Screen):Int:=bif !nT s.Key then 5 else bif tN s.On then 1 else bif !tH s.On w.W w.H then 3 else bif sLe s.Key last then 7 else 0
theorem meet_ok (a b:Rect):∃ m,jf a b=some m:=by
 unfold jf
 cases decide (w64 (eZ (w64 (a.X + a.W)) (w64 (b.X + b.W)) - bS a.X b.X)≤0) <;> cases decide (w64 (eZ (w64 (a.Y + a.H)) (w64 (b.Y + b.H)) - bS a.Y b.Y)≤0) <;> exact⟨_,rfl⟩
def z8 (w:Wall):Option Int:=(forL w.Screens () (fun k x s=>bH w k x s)).bind fun o_44=>thenC o_44 (fun s_41=>some 0) (fun r=>some r)
theorem Jk (w:Wall):(fun k x s=>lT w k x s)=fun k x s=>bH w k x s:=rfl
theorem MC (w:Wall) (hl:w.Screens.length≤1000):∃ e,z8 w=some e:=by
 have inner:∀ (x:Screen) (l:List Screen) (k:Nat),forR (fun k x_51 s=>cB x k x_51 s) l k ()=some (.go ())∨forR (fun k x_51 s=>cB x k x_51 s) l k ()=some (.ret 13):=by
  intro x l
  induction l with
  | nil=>exact fun _ => .inl rfl
  | cons y l ih =>
   intro k
   obtain ⟨m,hm⟩:=meet_ok x.On y.On
   rw [forR]
   have:cB x k y ()=some (bif m.2 then .ret 13 else .go ()):=by
    unfold cB
    rw [hm,Option.bind_some]
    cases m.2 <;> rfl
   rw [this,Option.bind_some]
   cases m.2 with
   | true=>exact .inr rfl
   | false=>exact ih (k + 1)
 have outer:∀ (l:List Screen) (k:Nat),w.Screens.drop k=l→forR (fun k x s=>bH w k x s) l k ()=some (.go ())∨forR (fun k x s=>bH w k x s) l k ()=some (.ret 13):=by
  intro l
  induction l with
  | nil=>exact fun _ _ => .inl rfl
  | cons x l ih =>
   intro k h
   have hlt:=oQ h
   have hsub:zf w.Screens 0 (k:Int)=some (w.Screens.take k):=by
    unfold zf
    rw [if_pos ⟨by omega,by omega,by omega,by omega⟩]; simp
   rw [forR]
   have hB:bH w k x ()=some (.go ())∨bH w k x ()=some (.ret 13):=by
    unfold bH
    rw [hsub,Option.bind_some,bW (by rw [List.length_take]; omega)]
    rcases inner x (w.Screens.take k) 0 with h1 | h1
    ·left; rw [h1]; rfl
    ·right; rw [h1]; rfl
   rcases hB with hB | hB
   ·rw [hB,Option.bind_some]; exact ih (k + 1) (aN h)
   ·rw [hB]; exact .inr rfl
 unfold z8
 rw [bW (by omega)]
 rcases outer w.Screens 0 rfl with h | h
 ·exact⟨0,by rw [h]; rfl⟩
 ·exact⟨13,by rw [h]; rfl⟩
theorem G5 (w:Wall) (hk:w.Key.size≤1000) (hs:∀ s∈w.Screens,s.Key.size≤1000) (hl:w.Screens.length≤50):∃ e,dI w=some e∧mo w=some e ∧
  (e=0→zm w.W=false∧zm w.H=false∧chk (fun s=>s.Key) (Ae w) uA w.Screens=0∧z8 w=some 0):=by
 unfold dI mo
 rw [wD w.Key (by omega),EW w.Key (by omega),JW,KZ,KZ]
 simp only [Option.bind_some,Bool.not_not]
 cases nT w.Key with
 | false=>exact⟨5,rfl,rfl,fun h=>by cases h⟩
 | true =>
  cases hW:zm w.W with
  | true=>exact⟨1,rfl,rfl,fun h=>by cases h⟩
  | false =>
   cases hH:zm w.H with
   | true=>exact⟨1,rfl,rfl,fun h=>by cases h⟩
   | false =>
    have hd:decide ((w.Screens.length:Int) > 50)=false:=by simp; omega
    simp only [Bool.not_true,cond_false,cond_true,Bool.or_self,bne_self_eq_false,hd,Option.bind_some]
    obtain ⟨p,hp⟩:=MC w (by omega)
    have h1:=C8 (key:=fun s:Screen=>s.Key) (stp:=Ae w) (body:=fun k x s=>iC w k x s) w.Screens w.Screens 0 rfl (fun k x hx=>by
     have hxm:=List.mem_of_getElem? hx
     unfold iC Ae
     rw [wD _ (by have:=hs x hxm; omega),qj,AQ]
     simp only [Option.bind_some]
     cases hkey:nT x.Key with
     | false=>rfl
     | true =>
      have hne:x.Key.size≠0:=Kb hkey
      rw [EU (key:=fun s:Screen=>s.Key) hx (by omega) hne]
      cases tN x.On with
      | true=>rfl
      | false =>
       cases tH x.On w.W w.H with
       | false=>rfl
       | true=>cases sLe x.Key (uZ (fun s:Screen=>s.Key) w.Screens k) <;> rfl)
    obtain ⟨last',h2⟩:=MW (key:=fun s:Screen=>s.Key) (stp:=Ae w) (body:=fun k x s=>jP w k x s) w.Screens 0 uA (fun k x last hxm=>by
     unfold jP Ae
     rw [EW _ (by have:=hs x hxm; omega),GD,LB]
     simp only [Option.bind_some]
     cases nT x.Key <;> cases tN x.On <;> cases tH x.On w.W w.H <;> cases sLe x.Key last <;> rfl)
    have h0:uZ (fun s:Screen=>s.Key) w.Screens 0=uA:=rfl
    rw [h0]at h1
    rw [bW (by omega),h1,bW (xs:=w.Screens) (s:=(⟨#[]⟩:ByteArray)) (by omega)]
    rw [show (⟨#[]⟩:ByteArray)=uA from rfl,h2]
    cases hc:chk (fun s:Screen=>s.Key) (Ae w) uA w.Screens == 0 with
    | true =>
     refine⟨p,?_,?_,fun hp0=>⟨trivial,trivial,eq_of_beq hc,by rw [hp,hp0]⟩⟩
     ·simp only [La,hc,cond_true,Option.bind_some,thenC]; exact hp
     ·simp only [cond_true,Option.bind_some,thenC]; rw [Jk]; exact hp
    | false =>
     refine⟨chk (fun s:Screen=>s.Key) (Ae w) uA w.Screens,?_,?_,fun e=>by rw [e]at hc; cases hc⟩
     ·simp only [La,hc,cond_false,Option.bind_some,thenC]
     ·simp only [cond_false,Option.bind_some,thenC]
end Go.Proofs.YtjhcehhmdmbleaaGreatDoor.Law

open Go Go.Eng
namespace Go.Proofs.YtjhcehhmdmbleaaGreatDoor.Law
set_option linter.unusedVariables false
set_option linter.unusedSimpArgs false
theorem MB (l:List Screen) (h:l.length≤1000000):dn l=some l:=by
 unfold dn
 rw [iE _ _ (by simp; omega)]; rfl
def WOk (w:Wall):Prop:=w.Key.size≤1000∧(∀ s∈w.Screens,s.Key.size≤1000)
end Go.Proofs.YtjhcehhmdmbleaaGreatDoor.Law

