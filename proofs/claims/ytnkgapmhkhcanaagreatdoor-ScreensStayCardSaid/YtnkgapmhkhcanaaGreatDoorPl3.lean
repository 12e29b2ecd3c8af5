/-
  THE PLAIN LAW (part 3).
-/
import Derived.Test.YtnkgapmhkhcanaaGreatDoorPl2
import Derived.Test.YtnkgapmhkhcanaaGreatDoorDefs
open Go Go.Eng
namespace Go.Proofs.YtnkgapmhkhcanaaGreatDoor.Law
set_option linter.unusedVariables false
set_option linter.unusedSimpArgs false
def dx (Rf:Nat->List Rect):List Zone->Nat->List Piece
 | [],_=>[]
 | z::l,k=>(Rf k).map (λr=>(⟨z.Key,r⟩:Piece))++dx Rf l (k+1)
theorem DD (Rf:Nat->List Rect) (B:Nat):∀(l:List Zone) (k:Nat),(∀j,k<=j->j<k+l.length->(Rf j).length<=B)->(dx Rf l k).length<=B*l.length
 | [],_,_=>Nat.zero_le _
 | z::l,k,h=>by
  have h1:=h k (Nat.le_refl _) (by simp)
  have h2:=DD Rf B l (k+1) (λj a b=>h j (by omega) (by simp;omega))
  rw [dx,List.length_append,List.length_map,List.length_cons,Nat.mul_succ];omega
theorem GM (z:Zone) {body:Nat->Rect->List Piece->Option (Ctl (List Piece) Unit)}:∀(l:List Rect) (k:Nat) (s:List Piece),(∀k r s,s.length<=1000000->body k r s=some (.go (s++[(⟨z.Key,r⟩:Piece)])))->s.length+l.length<=1000000->forR body l k s=some (.go (s++l.map (λr=>(⟨z.Key,r⟩:Piece))))
 | [],k,s,_,_=>by simp [forR]
 | r::l,k,s,h,hl=>by
  simp only [List.length_cons]at hl
  rw [forR,h k r s (by omega),ob_]
  simp only
  rw [GM z l (k+1) _ h (by simp;omega)]
  simp
end Go.Proofs.YtnkgapmhkhcanaaGreatDoor.Law

open Go Go.Eng
namespace Go.Proofs.YtnkgapmhkhcanaaGreatDoor.Law
set_option linter.unusedVariables false
set_option linter.unusedSimpArgs false
theorem seenOfP (L:Layout) (hz:∀z∈L.Zones,gM z.On/\pq z.Key=true) (hp:L.Zones.Pairwise (λa b=>lt a.Key b.Key)) (hl:L.Zones.length<=5) (kk:Nat) (zk:Zone) (hk:L.Zones[kk]? = some zk) :
  ∃R:List Rect,gY L kk=some R/\R.length<=78 /\
   ∃bs:List Band,R=jZ bs/\lX (-200000) bs/\(∀y,bg (-200000) (rowAt bs y)/\(∀r∈rowAt bs y,Okr r)/\∀x,mem x (rowAt bs y)↔sN L.Zones kk x y)/\∃above:List Rect,(∀r∈above,gM r)/\gM zk.On/\∀x y,sN L.Zones kk x y↔iA [zk.On] x y/\¬iA above x y:=by
 have hf:∀z∈L.Zones,gM z.On:=λz h=>(hz z h).1
 obtain ⟨above,a1,a2,a3⟩:=DU L kk zk hk (by omega) L.Zones 0 [] rfl (Nat.le_refl _) (λr=>by
  constructor
  ·intro h;cases h
  ·rintro ⟨i,z,h,_⟩;exact absurd h (Nat.not_lt_zero i))
 rw [Nat.zero_add]at a2
 have hset:∀x y,sN L.Zones kk x y↔iA [zk.On] x y/\¬iA above x y:=λx y=>by
  rw [<- EY,<- EY,Ow]
  unfold sN
  have e1:Ni L.Zones x y kk↔oO x y zk.On=true:=by
   constructor
   ·rintro ⟨z,h1,h2⟩
    rw [hk]at h1
    simp only [so_]at h1
    subst h1;exact h2
   ·exact λh=>⟨zk,hk,h⟩
  refine and_congr e1 ?_
  unfold hasB
  rw [List.any_eq_true]
  constructor
  ·rintro h ⟨r,hr,k⟩
   obtain ⟨i,z,b1,b2,b3,b4⟩:=(a3 r).1 hr
   subst b4
   exact h i (by omega) ⟨z,b2,k⟩ b3
  ·rintro h i hi ⟨z,b2,k⟩ b3
   exact h ⟨z.On,(a3 _).2 ⟨i,z,by omega,b2,b3,rfl⟩,k⟩
 have hfz:gM zk.On:=hf zk (List.mem_of_getElem? hk)
 have hfa:∀r∈above,gM r:=λr hr=>by
  obtain ⟨i,z,b1,b2,b3,b4⟩:=(a3 r).1 hr
  rw [b4];exact hf z (List.mem_of_getElem? b2)
 obtain ⟨R,r1,r2,bs,d0,d1,d2⟩:=zF [zk.On] above 1 5 (by decide) (by decide) (λr hr=>by rw [List.mem_singleton]at hr;subst hr;exact hfz) hfa (λy=>HZ _ y) (by omega) (by simp)
 refine⟨R,?_,?_,bs,d0,d1,λy=>⟨(d2 y).1,(d2 y).2.1,λx=>by rw [(d2 y).2.2,hset]⟩,above,hfa,hfz,hset⟩
 ·unfold gY
  rw [dz (by omega),a1]
  simp only [ob_,thenC,tT,hk,r1]
 ·have:(2*([zk.On].length+above.length)+1)*(1*(5+1))<=13*6:=Nat.mul_le_mul (by simp;omega) (by omega)
  omega
section
variable (L:Layout) (Rf:Nat->List Rect)
  (hR:∀(k:Nat) (z:Zone),L.Zones[k]? = some z->gY L k=some (Rf k)/\(Rf k).length<=78)
include hR
theorem D5:∀(l:List Zone) (k:Nat) (s:List Piece),L.Zones.drop k=l->s.length+78*l.length<=100000 ->
  forR (λk x s=>ig L k x s) l k s=some (.go (s++dx Rf l k))
 | [],k,s,_,_=>by simp [forR,dx]
 | z::l,k,s,h,hs=>by
  have hg:=rZ h
  obtain ⟨h1,h3⟩:=hR k z hg
  simp only [List.length_cons]at hs
  have b1:ig L k z s=some (.go (s++(Rf k).map (λr=>(⟨z.Key,r⟩:Piece)))):=by
   unfold ig
   rw [h1,ob_,dz (by omega),GM z (Rf k) 0 s (λk r s hs=>by unfold kv;rw [jO _ _ (by simp;omega)];rfl) (by omega)];rfl
  have c1:=D5 l (k+1) (s++(Rf k).map (λr=>(⟨z.Key,r⟩:Piece))) (aN h) (by rw [List.length_append,List.length_map];omega)
  rw [forR,b1,dx,<- List.append_assoc]
  exact c1
end
theorem PL (L:Layout) (hz:∀z∈L.Zones,gM z.On/\pq z.Key=true) (hp:L.Zones.Pairwise (λa b=>lt a.Key b.Key)) (hl:L.Zones.length<=5) :
  ∃Rf:Nat->List Rect,(∀(k:Nat) (z:Zone),L.Zones[k]? = some z->gY L k=some (Rf k)/\(Rf k).length<=78 /\
   ∃bs:List Band,Rf k=jZ bs/\lX (-200000) bs/\(∀y,bg (-200000) (rowAt bs y)/\(∀r∈rowAt bs y,Okr r)/\∀x,mem x (rowAt bs y)↔sN L.Zones k x y)/\∃above:List Rect,(∀r∈above,gM r)/\gM z.On/\∀x y,sN L.Zones k x y↔iA [z.On] x y/\¬iA above x y) /\
   jM L=some (dx Rf L.Zones 0,0)/\(dx Rf L.Zones 0).length<=390:=by
 have ex:∀k:Nat,∃R:List Rect,∀z:Zone,L.Zones[k]? = some z->gY L k=some R/\R.length<=78 /\
   ∃bs:List Band,R=jZ bs/\lX (-200000) bs/\(∀y,bg (-200000) (rowAt bs y)/\(∀r∈rowAt bs y,Okr r)/\∀x,mem x (rowAt bs y)↔sN L.Zones k x y)/\∃above:List Rect,(∀r∈above,gM r)/\gM z.On/\∀x y,sN L.Zones k x y↔iA [z.On] x y/\¬iA above x y:=λk=>by
  cases hk:L.Zones[k]? with
  | none=>exact⟨[],λz h=>by cases h⟩
  | some zk =>
   obtain ⟨R,h⟩:=seenOfP L hz hp hl k zk hk
   refine⟨R,λz h' => ?_⟩
   simp only [so_]at h'
   subst h';exact h
 obtain ⟨Rf,hRf⟩:=Classical.axiomOfChoice ex
 have hR3:∀(k:Nat) (z:Zone),L.Zones[k]? = some z->gY L k=some (Rf k)/\(Rf k).length<=78:=λk z h=>⟨(hRf k z h).1,(hRf k z h).2.1⟩
 have s1:=D5 L Rf hR3 L.Zones 0 [] rfl (by simp;omega)
 have hlen:(dx Rf L.Zones 0).length<=78*L.Zones.length:=DD Rf 78 L.Zones 0 (λj _ hj=>(hR3 j _ (List.getElem?_eq_getElem (by omega))).2)
 have hlen':(dx Rf L.Zones 0).length<=390:=by omega
 refine⟨Rf,λk z h=>hRf k z h,?_,hlen'⟩
 unfold jM
 rw [dz (by omega),s1]
 have:decide (((dx Rf L.Zones 0).length:Int)>2000)=false:=by simp;omega
 simp only [ob_,thenC,List.nil_append,this,cond_false]
end Go.Proofs.YtnkgapmhkhcanaaGreatDoor.Law

open Go Go.Eng
namespace Go.Proofs.YtnkgapmhkhcanaaGreatDoor.Law
set_option linter.unusedVariables false
set_option linter.unusedSimpArgs false
def scR (w h W H:Int) (r:Rect):Rect :=
 bif ((r.X+r.W)*W / w-r.X*W / w==0)||((r.Y+r.H)*H / h-r.Y*H / h==0)then⟨0,0,0,0⟩else⟨r.X*W / w,r.Y*H / h,(r.X+r.W)*W / w-r.X*W / w,(r.Y+r.H)*H / h-r.Y*H / h⟩
theorem vT {a b H h:Int} (h0:0<h) (H0:0<H) (hab:a<=b):a*H / h<=b*H / h :=
 Int.ediv_le_ediv h0 (Int.mul_le_mul_of_nonneg_right hab (by omega))
theorem scR_in {w h W H:Int} (w0:0<w) (h0:0<h) (W0:0<W) (H0:0<H) {r:Rect} (hx:0<=r.X/\0<=r.W/\r.X+r.W<=w) (hy:0<=r.Y/\0<=r.H/\r.Y+r.H<=h) :
  0<=(scR w h W H r).X/\0<=(scR w h W H r).W/\(scR w h W H r).X+(scR w h W H r).W<=W/\0<=(scR w h W H r).Y/\0<=(scR w h W H r).H/\(scR w h W H r).Y+(scR w h W H r).H<=H/\(scR w h W H r=⟨0,0,0,0⟩\/(0<(scR w h W H r).W/\0<(scR w h W H r).H)):=by
 have e1:0<=r.X*W / w:=Int.ediv_nonneg (Int.mul_nonneg hx.1 (by omega)) (by omega)
 have e2:r.X*W / w<=(r.X+r.W)*W / w:=vT w0 W0 (by omega)
 have e3:(r.X+r.W)*W / w<=w*W / w:=vT w0 W0 hx.2.2
 have f1:0<=r.Y*H / h:=Int.ediv_nonneg (Int.mul_nonneg hy.1 (by omega)) (by omega)
 have f2:r.Y*H / h<=(r.Y+r.H)*H / h:=vT h0 H0 (by omega)
 have f3:(r.Y+r.H)*H / h<=h*H / h:=vT h0 H0 hy.2.2
 rw [Int.mul_ediv_cancel_left _ (by omega)]at e3 f3
 unfold scR
 generalize r.X*W / w=X0 at *
 generalize (r.X+r.W)*W / w=X1 at *
 generalize r.Y*H / h=Y0 at *
 generalize (r.Y+r.H)*H / h=Y1 at *
 cases hz:((X1-X0==0)||(Y1-Y0==0))with
 | true =>
  simp only [cond_true]
  exact⟨Int.le_refl _,Int.le_refl _,by omega,Int.le_refl _,Int.le_refl _,by omega,.inl trivial⟩
 | false =>
  simp only [cond_false]
  simp only [Bool.or_eq_false_iff,beq_eq_false_iff_ne]at hz
  exact⟨e1,by omega,by omega,f1,by omega,by omega,.inr ⟨by omega,by omega⟩⟩
end Go.Proofs.YtnkgapmhkhcanaaGreatDoor.Law

open Go Go.Eng
namespace Go.Proofs.YtnkgapmhkhcanaaGreatDoor.Law
set_option linter.unusedVariables false
set_option linter.unusedSimpArgs false
theorem Nq (r:Rect) (w h W H:Int) (hx:0<=r.X/\0<=r.W/\r.X+r.W<=w) (hy:0<=r.Y/\0<=r.H/\r.Y+r.H<=h) (hw:1<=w/\w<=20000) (hh:1<=h/\h<=20000) (hW:1<=W/\W<=20000) (hH:1<=H/\H<=20000) :
  lh r w h W H=some (scR w h W H r):=by
 have mul_b:∀a b:Int,0<=a->a<=20000->1<=b->b<=20000->0<=a*b/\a*b<=400000000:=λa b h1 h2 h3 h4 =>
  ⟨Int.mul_nonneg h1 (by omega),Int.le_trans (Int.mul_le_mul_of_nonneg_right h2 (by omega)) (Int.le_trans (Int.mul_le_mul_of_nonneg_left h4 (by omega)) (by omega))⟩
 have q_ok:∀a b:Int,0<=a->a<=400000000->1<=b->BL .i64 a b=some (a / b)/\0<=a / b/\a / b<=400000000:=λa b h1 h2 h3=>by
  have e:a.tdiv b=a / b:=Int.tdiv_eq_ediv_of_nonneg h1
  have k1:0<=a / b:=Int.ediv_nonneg h1 (by omega)
  have k2:a / b<=a:=Int.ediv_le_self b h1
  refine⟨?_,k1,by omega⟩
  unfold BL
  rw [if_neg (by omega),e]
  exact congrArg some (bK (n:=a / b) (by omega))
 obtain ⟨a1,a2⟩:=mul_b r.X W (by omega) (by omega) hW.1 hW.2
 obtain ⟨b1,b2⟩:=mul_b r.Y H (by omega) (by omega) hH.1 hH.2
 obtain ⟨c1,c2⟩:=mul_b (r.X+r.W) W (by omega) (by omega) hW.1 hW.2
 obtain ⟨d1,d2⟩:=mul_b (r.Y+r.H) H (by omega) (by omega) hH.1 hH.2
 obtain ⟨p1,p2,p3⟩:=q_ok (r.X*W) w a1 a2 hw.1
 obtain ⟨q1,q2,q3⟩:=q_ok (r.Y*H) h b1 b2 hh.1
 obtain ⟨u1,u2,u3⟩:=q_ok ((r.X+r.W)*W) w c1 c2 hw.1
 obtain ⟨v1,v2,v3⟩:=q_ok ((r.Y+r.H)*H) h d1 d2 hh.1
 unfold lh scR
 rw [bK (n:=r.X+r.W) (by omega),bK (n:=r.Y+r.H) (by omega),bK (n:=r.X*W) (by omega),bK (n:=r.Y*H) (by omega),bK (n:=(r.X+r.W)*W) (by omega),bK (n:=(r.Y+r.H)*H) (by omega)]
 rw [p1,q1,u1,v1]
 simp only [ob_]
 rw [bK (n:=(r.X+r.W)*W / w-r.X*W / w) (by omega),bK (n:=(r.Y+r.H)*H / h-r.Y*H / h) (by omega)]
 cases ((r.X+r.W)*W / w-r.X*W / w==0) <;> cases ((r.Y+r.H)*H / h-r.Y*H / h==0) <;> rfl
theorem eqRects (l:List Rect) (hl:l.length<=1000000):dW l l=some true:=by
 have key:∀(xs:List Rect) (k:Nat),l.drop k=xs->forR (λk x s=>cO l k x s) xs k ()=some (.go ()):=by
  intro xs
  induction xs with
  | nil=>exact λ_ _=>rfl
  | cons x xs ih =>
   intro k h
   have hg:idx l (k:Int)=some x:=bu h
   rw [forR]
   have:cO l k x ()=some (.go ()):=by
    unfold cO
    rw [hg];simp
   rw [this,ob_]
   exact ih (k+1) (aN h)
 unfold dW
 have:((l.length:Int) != (l.length:Int))=false:=by simp
 rw [this,cond_false,dz (by omega),key l 0 rfl];rfl
end Go.Proofs.YtnkgapmhkhcanaaGreatDoor.Law

open Go Go.Eng
namespace Go.Proofs.YtnkgapmhkhcanaaGreatDoor.Law
set_option linter.unusedVariables false
set_option linter.unusedSimpArgs false
theorem EX (s:Stream) {b:Int} (hs:Ok s b) (hb:b<=900000):∃r s',eH s=some (r,s')/\gM r/\(-2<=r.X/\r.X<=8 /\ -2<=r.Y/\r.Y<=8/\r.W<=5/\r.H<=5)/\Ok s' (b+4):=by
 unfold eH
 obtain ⟨X,q1,c1,c2,c3,c4⟩:=lF s (-2) 8 hs (by omega) (by decide) (by decide) (by decide)
 obtain ⟨Y,q2,d1,d2,d3,d4⟩:=lF q1 (-2) 8 c4 (by omega) (by decide) (by decide) (by decide)
 obtain ⟨U,q3,e1,e2,e3,e4⟩:=lF q2 1 5 d4 (by omega) (by decide) (by decide) (by decide)
 obtain ⟨V,q4,f1,f2,f3,f4⟩:=lF q3 1 5 e4 (by omega) (by decide) (by decide) (by decide)
 simp only [c1,d1,e1,f1,ob_]
 refine⟨_,_,rfl,?_,by simp only [];omega,f4.mono (by omega)⟩
 unfold gM
 simp only [];omega
end Go.Proofs.YtnkgapmhkhcanaaGreatDoor.Law

open Go Go.Eng
namespace Go.Proofs.YtnkgapmhkhcanaaGreatDoor.Law
set_option linter.unusedVariables false
set_option linter.unusedSimpArgs false
def qo {σ ρ:Type} (s:σ) (body:σ->Option (Ctl σ ρ)):Option (Ctl σ ρ):=iterN body 300 s
def Le {α:Type} (a b:Option α):Prop:=∀r,a=some r->b=some r
theorem Le.refl {α:Type} (a:Option α):Le a a:=λ_ h=>h
theorem Le.bind {α β:Type} {a b:Option α} {f g:α->Option β} (h:Le a b) (k:∀x,Le (f x) (g x)):Le (a.bind f) (b.bind g):=λr e=>by
 obtain ⟨x,h1,h2⟩:=Option.bind_eq_some_iff.1 e
 rw [h x h1];exact k x r h2
theorem Le.cond {α:Type} {a b c d:Option α} {t:Bool} (h:Le a c) (k:Le b d):Le (bif t then a else b) (bif t then c else d):=by
 cases t
 ·exact k
 ·exact h
theorem Le.thenC {σ ρ τ:Type} {o:Ctl σ ρ} {f f':σ->Option τ} {g g':ρ->Option τ} (h:∀x,Le (f x) (f' x)) (k:∀x,Le (g x) (g' x)):Le (Go.Eng.thenC o f g) (Go.Eng.thenC o f' g'):=by
 cases o
 ·exact h _
 ·exact Le.refl _
 ·exact k _
theorem Le.forR {α σ ρ:Type} {b b':Nat->α->σ->Option (Ctl σ ρ)} (h:∀k x s,Le (b k x s) (b' k x s)):∀(xs:List α) (k:Nat) (s:σ),Le (Go.Eng.forR b xs k s) (Go.Eng.forR b' xs k s)
 | [],k,s=>Le.refl _
 | x::xs,k,s=>Le.bind (h k x s) (λc=>by
   cases c with
   | go s'=>exact Le.forR h xs _ _
   | brk s'=>exact Le.refl _
   | ret r=>exact Le.refl _)
theorem Le.forL {α σ ρ:Type} {xs:List α} {s:σ} {b b':Nat->α->σ->Option (Ctl σ ρ)} (h:∀k x s,Le (b k x s) (b' k x s)):Le (Go.Eng.forL xs s b) (Go.Eng.forL xs s b'):=by
 unfold Go.Eng.forL
 split
 ·exact Le.forR h xs 0 s
 ·exact Le.refl _
theorem Le.iterN {σ ρ:Type} {b b':σ->Option (Ctl σ ρ)} (h:∀s,Le (b s) (b' s)):∀(n:Nat) (s:σ),Le (Go.Eng.iterN b n s) (Go.Eng.iterN b' n s)
 | 0,s=>Le.refl _
 | n+1,s=>Le.bind (h s) (λc=>by
   cases c with
   | go s'=>exact Le.iterN h n s'
   | brk s'=>exact Le.refl _
   | ret r=>exact Le.refl _)
theorem Le.loop {σ ρ:Type} {s:σ} {b b':σ->Option (Ctl σ ρ)} (h:∀s,Le (b s) (b' s)):Le (qo s b) (jK s b'):=λr e=>jb (Le.iterN h _ _ r e)
end Go.Proofs.YtnkgapmhkhcanaaGreatDoor.Law

open Go Go.Eng
namespace Go.Proofs.YtnkgapmhkhcanaaGreatDoor.Law
set_option linter.unusedVariables false
set_option linter.unusedSimpArgs false
def Nj (x:Int):List Int->List Int
 | []=>[x]
 | y::l=>bif decide (x<=y)then x::y::l else y::Nj x l
def EC:List Int->List Int
 | []=>[]
 | x::l=>Nj x (EC l)
theorem BC (x:Int):∀l,(Nj x l).Perm (x::l)
 | [] => .refl _
 | y::l=>by
  unfold Nj
  cases decide (x<=y)with
  | true=>exact .refl _
  | false=>exact ((BC x l).cons y).trans (List.Perm.swap x y l)
theorem Ct:∀l,(EC l).Perm l
 | [] => .refl _
 | x::l=>(BC x _).trans ((Ct l).cons x)
theorem Cj (x:Int):∀l:List Int,l.Pairwise (· <= ·)->(Nj x l).Pairwise (· <= ·)
 | [],_=>List.pairwise_singleton _ _
 | y::l,h=>by
  obtain ⟨h1,h2⟩:=List.pairwise_cons.1 h
  unfold Nj
  by_cases hx:x<=y
  ·rw [decide_eq_true hx,cond_true]
   exact List.pairwise_cons.2 ⟨λz hz=>by
    rcases List.mem_cons.1 hz with rfl|hz
    ·exact hx
    ·exact Int.le_trans hx (h1 z hz),h⟩
  ·rw [decide_eq_false hx,cond_false]
   exact List.pairwise_cons.2 ⟨λz hz=>by
    rcases List.mem_cons.1 ((BC x l).mem_iff.1 hz)with rfl|hz
    ·omega
    ·exact h1 z hz,Cj x l h2⟩
theorem yZ:∀l,(EC l).Pairwise (· <= ·)
 | [] => .nil
 | x::l=>Cj x _ (yZ l)
theorem M9 (l:List Int):l.mergeSort (λx y=>decide (x<=y))=EC l:=by
 refine List.Perm.eq_of_pairwise (le:=(· <= ·)) (λa b _ _ h1 h2=>Int.le_antisymm h1 h2) ?_ (yZ l) ((List.mergeSort_perm l _).trans (Ct l).symm)
 have:=List.pairwise_mergeSort (le:=λ(x y:Int)=>decide (x<=y)) (λa b c=>by simp;omega) (λa b=>by simp;omega) l
 exact this.imp (by simp)
def OI (l:List Int):Option (List Int):=bif Nat.ble l.length 1000 then some (EC l)else none
theorem PR (l:List Int):Le (OI l) (dK l):=λr h=>by
 unfold OI at h
 cases hb:Nat.ble l.length 1000 with
 | false=>rw [hb]at h;cases h
 | true =>
  rw [hb,cond_true]at h
  have:=Nat.le_of_ble_eq_true hb
  unfold dK JW
  rw [if_pos (by omega),M9];exact h
end Go.Proofs.YtnkgapmhkhcanaaGreatDoor.Law

open Go Go.Eng
namespace Go.Proofs.YtnkgapmhkhcanaaGreatDoor.Law
set_option linter.unusedVariables false
set_option linter.unusedSimpArgs false
set_option maxRecDepth 100000
def ib (s_1:(List Int)) (s_8:Int):Option (Ctl (Int) ((List Int))) :=
 bif (decide (s_8<(s_1.length:Int)))then (inR s_8 s_1).bind λ_=>(s_1[(0+(s_8).toNat)]?).bind λe_15=>(inR (w64 (s_8-1)) s_1).bind λ_=>(s_1[(0+((w64 (s_8-1))).toNat)]?).bind λe_18=>bif (e_15==e_18)then (neL s_1).bind λ_=>(wV s_1 s_8 (s_1.length:Int)).bind λ_=>(qo (s_1,s_8,1) (λs=>bS s_1 s_8 s)).bind λo_31=>thenC o_31 (λs_28=>(wV s_28.1 s_28.2.1 (s_28.1.length:Int)).bind λ_=>(wV (s_28.1.take ((s_28.2.1).toNat)++List.replicate (((s_28.1.length:Int)).toNat-(s_28.2.1).toNat) 0++s_28.1.drop (((s_28.2.1).toNat)+(((s_28.1.length:Int)).toNat-(s_28.2.1).toNat))) 0 s_28.2.1).bind λ_=>some (.ret (cutL (s_28.1.take ((s_28.2.1).toNat)++List.replicate (((s_28.1.length:Int)).toNat-(s_28.2.1).toNat) 0++s_28.1.drop (((s_28.2.1).toNat)+(((s_28.1.length:Int)).toNat-(s_28.2.1).toNat))) 0 ((s_28.2.1).toNat)))) (λ_=>none)else some (.go (w64 (s_8+1)))else some (.brk s_8)
theorem pu (s_1:(List Int)) (s_8:Int):Le (ib s_1 s_8) (aX s_1 s_8):=by
 unfold ib aX
 repeat' (with_reducible first | exact Le.refl _ | refine Le.loop (λ_ => ?_) | refine Le.forL (λ_ _ _ => ?_) | refine Le.thenC (λ_ => ?_) (λ_ => ?_) | refine Le.cond ?_ ?_ | refine Le.bind ?_ (λ_ => ?_))
def ja (s_1:(List Int)):Option ((List Int)) :=
 bif (decide ((s_1.length:Int)<2))then some s_1 else (qo 1 (λs=>ib s_1 s)).bind λo_11=>thenC o_11 (λs_8=>some s_1) (λr=>some r)
theorem qO (s_1:(List Int)):Le (ja s_1) (bX s_1):=by
 unfold ja bX
 repeat' (with_reducible first | exact Le.refl _ | exact pu _ _ | refine Le.loop (λ_ => ?_) | refine Le.forL (λ_ _ _ => ?_) | refine Le.thenC (λ_ => ?_) (λ_ => ?_) | refine Le.cond ?_ ?_ | refine Le.bind ?_ (λ_ => ?_))
def dP (b_3:Int) (a_2:Int) (s_10:(List Run)×Int):Option (Ctl ((List Run)×Int) (Unit)) :=
 bif (decide (s_10.2<b_3))then (qo (s_10.1,s_10.2) (λs=>dh a_2 s)).bind λo_24=>thenC o_24 (λs_21=>some (.go (s_21.1,(w64 (s_10.2+1))))) (λ_=>none)else some (.brk (s_10.1,s_10.2))
theorem jH (b_3:Int) (a_2:Int) (s_10:(List Run)×Int):Le (dP b_3 a_2 s_10) (bN b_3 a_2 s_10):=by
 unfold dP bN
 repeat' (with_reducible first | exact Le.refl _ | refine Le.loop (λ_ => ?_) | refine Le.forL (λ_ _ _ => ?_) | refine Le.thenC (λ_ => ?_) (λ_ => ?_) | refine Le.cond ?_ ?_ | refine Le.bind ?_ (λ_ => ?_))
def ek (data_1:(List Run)) (a_2:Int) (b_3:Int):Option ((List Run)) :=
 (qo (data_1,(w64 (a_2+1))) (λs=>dP b_3 a_2 s)).bind λo_13=>thenC o_13 (λs_10=>some s_10.1) (λ_=>none)
theorem kK (data_1:(List Run)) (a_2:Int) (b_3:Int):Le (ek data_1 a_2 b_3) (bT data_1 a_2 b_3):=by
 unfold ek bT
 repeat' (with_reducible first | exact Le.refl _ | exact jH _ _ _ | refine Le.loop (λ_ => ?_) | refine Le.forL (λ_ _ _ => ?_) | refine Le.thenC (λ_ => ?_) (λ_ => ?_) | refine Le.cond ?_ ?_ | refine Le.bind ?_ (λ_ => ?_))
def eT (b_3:Int) (a_2:Int) (data_1:(List Run)) (limit_4:Int) (s_11:Unit):Option (Ctl (Unit) ((List Run))) :=
 bif (decide ((w64 (b_3-a_2))<=12))then (ek data_1 a_2 b_3).bind λr_17=>(gQ r_17 data_1).bind λ_=>some (.ret r_17)else bif (limit_4==0)then none else none
theorem lm (b_3:Int) (a_2:Int) (data_1:(List Run)) (limit_4:Int) (s_11:Unit):Le (eT b_3 a_2 data_1 limit_4 s_11) (cZ b_3 a_2 data_1 limit_4 s_11):=by
 unfold eT cZ
 repeat' (with_reducible first | exact Le.refl _ | exact kK _ _ _ | refine Le.loop (λ_ => ?_) | refine Le.forL (λ_ _ _ => ?_) | refine Le.thenC (λ_ => ?_) (λ_ => ?_) | refine Le.cond ?_ ?_ | refine Le.bind ?_ (λ_ => ?_))
def fC (data_1:(List Run)) (a_2:Int) (b_3:Int) (limit_4:Int):Option ((List Run)) :=
 (qo () (λs=>eT b_3 a_2 data_1 limit_4 s)).bind λo_14=>thenC o_14 (λs_11=>some data_1) (λr=>some r)
theorem l8 (data_1:(List Run)) (a_2:Int) (b_3:Int) (limit_4:Int):Le (fC data_1 a_2 b_3 limit_4) (bU data_1 a_2 b_3 limit_4):=by
 unfold fC bU
 repeat' (with_reducible first | exact Le.refl _ | exact lm _ _ _ _ _ | refine Le.loop (λ_ => ?_) | refine Le.forL (λ_ _ _ => ?_) | refine Le.thenC (λ_ => ?_) (λ_ => ?_) | refine Le.cond ?_ ?_ | refine Le.bind ?_ (λ_ => ?_))
def eF (x_1:(List Run)):Option ((List Run)) :=
 (lI (IntKind.u64.wrap (x_1.length:Int))).bind λr_3=>(fC x_1 0 (x_1.length:Int) r_3).bind λr_5=>(gQ r_5 x_1).bind λ_=>some r_5
theorem kU (x_1:(List Run)):Le (eF x_1) (bB x_1):=by
 unfold eF bB
 repeat' (with_reducible first | exact Le.refl _ | exact l8 _ _ _ _ | refine Le.loop (λ_ => ?_) | refine Le.forL (λ_ _ _ => ?_) | refine Le.thenC (λ_ => ?_) (λ_ => ?_) | refine Le.cond ?_ ?_ | refine Le.bind ?_ (λ_ => ?_))
def rF (l_1:(List Rect)) (y_2:Int):Option ((List Run)) :=
 (forL l_1 ([]:List Run) (λk x s=>jm y_2 k x s)).bind λo_14=>thenC o_14 (λs_8=>(eF s_8).bind λr_27=>(gQ r_27 s_8).bind λ_=>(forL r_27 ([]:List Run) (λk x s=>gD k x s)).bind λo_41=>thenC o_41 (λs_35=>some s_35) (λ_=>none)) (λ_=>none)
theorem Eg (l_1:(List Rect)) (y_2:Int):Le (rF l_1 y_2) (fH l_1 y_2):=by
 unfold rF fH
 repeat' (with_reducible first | exact Le.refl _ | exact kU _ | refine Le.loop (λ_ => ?_) | refine Le.forL (λ_ _ _ => ?_) | refine Le.thenC (λ_ => ?_) (λ_ => ?_) | refine Le.cond ?_ ?_ | refine Le.bind ?_ (λ_ => ?_))
def qM (m_2:(List Run)) (k_3:Nat) (x_5:Run) (s_8:(List Run)×Int):Option (Ctl ((List Run)×Int) (Unit)) :=
 (qo s_8.2 (λs=>fM m_2 x_5 s)).bind λo_25=>thenC o_25 (λs_22=>(qo (s_8.1,s_22,x_5.f_from) (λs=>eD m_2 x_5 s)).bind λo_43=>thenC o_43 (λs_38=>(bif (decide (s_38.2.2<x_5.f_to))then (nE s_38.1 ([(⟨s_38.2.2,x_5.f_to⟩:Run)]:List Run)).bind λa_68=>some a_68 else some s_38.1).bind λv_64=>some (.go (v_64,s_22))) (λ_=>none)) (λ_=>none)
theorem Az (m_2:(List Run)) (k_3:Nat) (x_5:Run) (s_8:(List Run)×Int):Le (qM m_2 k_3 x_5 s_8) (iw m_2 k_3 x_5 s_8):=by
 unfold qM iw
 repeat' (with_reducible first | exact Le.refl _ | refine Le.loop (λ_ => ?_) | refine Le.forL (λ_ _ _ => ?_) | refine Le.thenC (λ_ => ?_) (λ_ => ?_) | refine Le.cond ?_ ?_ | refine Le.bind ?_ (λ_ => ?_))
def vO (l_1:(List Run)) (m_2:(List Run)):Option ((List Run)) :=
 (forL l_1 (([]:List Run),0) (λk x s=>qM m_2 k x s)).bind λo_14=>thenC o_14 (λs_8=>some s_8.1) (λ_=>none)
theorem EW (l_1:(List Run)) (m_2:(List Run)):Le (vO l_1 m_2) (jP l_1 m_2):=by
 unfold vO jP
 repeat' (with_reducible first | exact Le.refl _ | exact Az _ _ _ _ | refine Le.loop (λ_ => ?_) | refine Le.forL (λ_ _ _ => ?_) | refine Le.thenC (λ_ => ?_) (λ_ => ?_) | refine Le.cond ?_ ?_ | refine Le.bind ?_ (λ_ => ?_))
def oW (r_25:(List Int)) (l_1:(List Rect)) (m_2:(List Rect)) (k_27:Nat) (x_29:Int) (s_32:(List Rect)×(List Run)×Int):Option (Ctl ((List Rect)×(List Run)×Int) (Unit)) :=
 (bif (decide ((w64 ((k_27:Int)+1))<(r_25.length:Int)))then (rF l_1 x_29).bind λr_45=>(rF m_2 x_29).bind λr_47=>(vO r_45 r_47).bind λr_49=>some r_49 else some ([]:List Run)).bind λv_42=>(bn s_32.2.1 v_42).bind λr_51=>bif r_51 then some (.go (s_32.1,s_32.2.1,s_32.2.2))else (forL s_32.2.1 s_32.1 (λk x s=>dU s_32 x_29 k x s)).bind λo_64=>thenC o_64 (λs_59=>some (.go (s_59,v_42,x_29))) (λ_=>none)
theorem yH (r_25:(List Int)) (l_1:(List Rect)) (m_2:(List Rect)) (k_27:Nat) (x_29:Int) (s_32:(List Rect)×(List Run)×Int):Le (oW r_25 l_1 m_2 k_27 x_29 s_32) (dC r_25 l_1 m_2 k_27 x_29 s_32):=by
 unfold oW dC
 repeat' (with_reducible first | exact Le.refl _ | exact Eg _ _ | exact EW _ _ | refine Le.loop (λ_ => ?_) | refine Le.forL (λ_ _ _ => ?_) | refine Le.thenC (λ_ => ?_) (λ_ => ?_) | refine Le.cond ?_ ?_ | refine Le.bind ?_ (λ_ => ?_))
def sW (l_1:(List Rect)) (m_2:(List Rect)):Option ((List Rect)) :=
 (dw ([l_1,m_2]:List (List Rect))).bind λr_3=>(forL r_3 ([]:List Int) (λk x s=>fZ k x s)).bind λo_16=>thenC o_16 (λs_10=>(OI s_10).bind λr_22=>(gQ r_22 s_10).bind λ_=>(ja r_22).bind λr_25=>(forL r_25 (([]:List Rect),([]:List Run),0) (λk x s=>oW r_25 l_1 m_2 k x s)).bind λo_38=>thenC o_38 (λs_32=>some s_32.1) (λ_=>none)) (λ_=>none)
theorem BX (l_1:(List Rect)) (m_2:(List Rect)):Le (sW l_1 m_2) (dI l_1 m_2):=by
 unfold sW dI
 repeat' (with_reducible first | exact Le.refl _ | exact qO _ | exact yH _ _ _ _ _ _ | exact PR _ | refine Le.loop (λ_ => ?_) | refine Le.forL (λ_ _ _ => ?_) | refine Le.thenC (λ_ => ?_) (λ_ => ?_) | refine Le.cond ?_ ?_ | refine Le.bind ?_ (λ_ => ?_))
def vw (l_1:(List Rect)):Option (Int×Int) :=
 (dX l_1).bind λr_2=>bif (r_2 != 0)then some (0,r_2)else (sW l_1 ([]:List Rect)).bind λr_5=>(tX r_5).bind λr_7=>some (r_7,0)
theorem Fy (l_1:(List Rect)):Le (vw l_1) (qA l_1):=by
 unfold vw qA
 repeat' (with_reducible first | exact Le.refl _ | exact BX _ _ | refine Le.loop (λ_ => ?_) | refine Le.forL (λ_ _ _ => ?_) | refine Le.thenC (λ_ => ?_) (λ_ => ?_) | refine Le.cond ?_ ?_ | refine Le.bind ?_ (λ_ => ?_))
def gW (s_1:ByteArray):Option (Bool) :=
 (qo 0 (λs=>jR s_1 s)).bind λo_10=>thenC o_10 (λs_7=>(bif (sNe s_1 (⟨#[]⟩:ByteArray))then some (decide ((s_1.size:Int)<=40))else some false).bind λv_30=>some v_30) (λr=>some r)
theorem jG (s_1:ByteArray):Le (gW s_1) (eG s_1):=by
 unfold gW eG
 repeat' (with_reducible first | exact Le.refl _ | refine Le.loop (λ_ => ?_) | refine Le.forL (λ_ _ _ => ?_) | refine Le.thenC (λ_ => ?_) (λ_ => ?_) | refine Le.cond ?_ ?_ | refine Le.bind ?_ (λ_ => ?_))
def ny (l_1:(List ByteArray)) (k_2:Nat) (x_4:ByteArray) (s_7:Unit):Option (Ctl (Unit) (Int)) :=
 (gW x_4).bind λr_12=>bif (!r_12)then some (.ret 5)else (bif (decide ((k_2:Int)>0))then (idx l_1 (w64 ((k_2:Int)-1))).bind λy_18=>some (sLe x_4 y_18)else some false).bind λv_15=>bif v_15 then some (.ret 7)else some (.go ())
theorem wW (l_1:(List ByteArray)) (k_2:Nat) (x_4:ByteArray) (s_7:Unit):Le (ny l_1 k_2 x_4 s_7) (jk l_1 k_2 x_4 s_7):=by
 unfold ny jk
 repeat' (with_reducible first | exact Le.refl _ | exact jG _ | refine Le.loop (λ_ => ?_) | refine Le.forL (λ_ _ _ => ?_) | refine Le.thenC (λ_ => ?_) (λ_ => ?_) | refine Le.cond ?_ ?_ | refine Le.bind ?_ (λ_ => ?_))
def mU (l_1:(List ByteArray)):Option (Int) :=
 (forL l_1 () (λk x s=>ny l_1 k x s)).bind λo_10=>thenC o_10 (λs_7=>some 0) (λr=>some r)
theorem sF (l_1:(List ByteArray)):Le (mU l_1) (jE l_1):=by
 unfold mU jE
 repeat' (with_reducible first | exact Le.refl _ | exact wW _ _ _ _ | refine Le.loop (λ_ => ?_) | refine Le.forL (λ_ _ _ => ?_) | refine Le.thenC (λ_ => ?_) (λ_ => ?_) | refine Le.cond ?_ ?_ | refine Le.bind ?_ (λ_ => ?_))
def nk (l_1:(List ByteArray)):Option (Int) :=
 bif (decide ((l_1.length:Int)>20))then some 2 else (mU l_1).bind λr_3=>some r_3
theorem wU (l_1:(List ByteArray)):Le (nk l_1) (jl l_1):=by
 unfold nk jl
 repeat' (with_reducible first | exact Le.refl _ | exact sF _ | refine Le.loop (λ_ => ?_) | refine Le.forL (λ_ _ _ => ?_) | refine Le.thenC (λ_ => ?_) (λ_ => ?_) | refine Le.cond ?_ ?_ | refine Le.bind ?_ (λ_ => ?_))
def mI (e_1:Entry):Option (Int) :=
 ((gW e_1.Key).bind λr_5=>bif (!r_5)then some true else (gW e_1.Item).bind λr_8=>some (!r_8)).bind λv_3=>bif v_3 then some 5 else ((aQ e_1.Version 0 1000000).bind λr_13=>bif r_13 then some true else (aQ e_1.First 0 e_1.Last).bind λr_16=>bif r_16 then some true else bif (decide (e_1.Last>4000))then some true else (aQ e_1.Every 1 400).bind λr_20=>bif r_20 then some true else (aQ e_1.Days 1 127).bind λr_23=>some r_23).bind λv_11=>bif v_11 then some 1 else (jU e_1.Except).bind λr_26=>bif (r_26 != 0)then some r_26 else ((aQ e_1.From 0 1439).bind λr_31=>bif r_31 then some true else (aQ e_1.To 0 1439).bind λr_34=>bif r_34 then some true else (aQ e_1.Prio 0 9).bind λr_37=>some r_37).bind λv_29=>bif v_29 then some 1 else (nk e_1.Tags).bind λr_40=>some r_40
theorem vC (e_1:Entry):Le (mI e_1) (iR e_1):=by
 unfold mI iR
 repeat' (with_reducible first | exact Le.refl _ | exact jG _ | exact wU _ | refine Le.loop (λ_ => ?_) | refine Le.forL (λ_ _ _ => ?_) | refine Le.thenC (λ_ => ?_) (λ_ => ?_) | refine Le.cond ?_ ?_ | refine Le.bind ?_ (λ_ => ?_))
def jD (l_1:(List Entry)) (k_3:Nat) (x_5:Entry) (s_8:Unit):Option (Ctl (Unit) (Int)) :=
 (mI x_5).bind λr_14=>bif (r_14 != 0)then some (.ret r_14)else (bif (decide ((k_3:Int)>0))then (idx l_1 (w64 ((k_3:Int)-1))).bind λy_20=>some (sLe x_5.Key y_20.Key)else some false).bind λv_17=>bif v_17 then some (.ret 7)else some (.go ())
theorem rD (l_1:(List Entry)) (k_3:Nat) (x_5:Entry) (s_8:Unit):Le (jD l_1 k_3 x_5 s_8) (fQ l_1 k_3 x_5 s_8):=by
 unfold jD fQ
 repeat' (with_reducible first | exact Le.refl _ | exact vC _ | refine Le.loop (λ_ => ?_) | refine Le.forL (λ_ _ _ => ?_) | refine Le.thenC (λ_ => ?_) (λ_ => ?_) | refine Le.cond ?_ ?_ | refine Le.bind ?_ (λ_ => ?_))
def kX (l_1:(List Entry)):Option (Int) :=
 bif (decide ((l_1.length:Int)>200))then some 2 else (forL l_1 () (λk x s=>jD l_1 k x s)).bind λo_11=>thenC o_11 (λs_8=>some 0) (λr=>some r)
theorem uE (l_1:(List Entry)):Le (kX l_1) (gU l_1):=by
 unfold kX gU
 repeat' (with_reducible first | exact Le.refl _ | exact rD _ _ _ _ | refine Le.loop (λ_ => ?_) | refine Le.forL (λ_ _ _ => ?_) | refine Le.thenC (λ_ => ?_) (λ_ => ?_) | refine Le.cond ?_ ?_ | refine Le.bind ?_ (λ_ => ?_))
def iM (x_1:(List Int)) (target_2:Int):Option (Int×Bool) :=
 (qo (0,(x_1.length:Int)) (λs=>fA x_1 target_2 s)).bind λo_11=>thenC o_11 (λs_8=>(bif (decide (s_8.1<(x_1.length:Int)))then (idx x_1 s_8.1).bind λy_24=>bif (y_24==target_2)then some true else (idx x_1 s_8.1).bind λy_27=>(iX y_27).bind λr_29=>bif r_29 then (iX target_2).bind λr_32=>some r_32 else some false else some false).bind λv_21=>some (s_8.1,v_21)) (λ_=>none)
theorem pK (x_1:(List Int)) (target_2:Int):Le (iM x_1 target_2) (eQ x_1 target_2):=by
 unfold iM eQ
 repeat' (with_reducible first | exact Le.refl _ | refine Le.loop (λ_ => ?_) | refine Le.forL (λ_ _ _ => ?_) | refine Le.thenC (λ_ => ?_) (λ_ => ?_) | refine Le.cond ?_ ?_ | refine Le.bind ?_ (λ_ => ?_))
def qR (e_1:Entry) (d_2:Int):Option (Bool) :=
 ((aQ d_2 e_1.First e_1.Last).bind λr_6=>bif r_6 then some true else (Jk .i64 (w64 (d_2-e_1.First)) e_1.Every).bind λq_9=>bif (q_9 != 0)then some true else (EM .i64 1 (d_2.tmod 7)).bind λq_12=>some ((vX .i64 e_1.Days q_12)==0)).bind λv_4=>bif v_4 then some false else (iM e_1.Except d_2).bind λr_15=>some (!r_15.2)
theorem AC (e_1:Entry) (d_2:Int):Le (qR e_1 d_2) (mh e_1 d_2):=by
 unfold qR mh
 repeat' (with_reducible first | exact Le.refl _ | exact pK _ _ | refine Le.loop (λ_ => ?_) | refine Le.forL (λ_ _ _ => ?_) | refine Le.thenC (λ_ => ?_) (λ_ => ?_) | refine Le.cond ?_ ?_ | refine Le.bind ?_ (λ_ => ?_))
def og (wv_3:Window) (zone_2:Int) (e_1:Entry) (s_15:(List Window)×Int):Option (Ctl ((List Window)×Int) (Unit)) :=
 bif (decide (s_15.2<=(fD (w64 ((w64 ((w64 (wv_3.To+(w64 (zone_2*60000)))).tdiv 86400000))+1)) e_1.Last)))then (qR e_1 s_15.2).bind λr_24=>bif (!r_24)then some (.go (s_15.1,(w64 (s_15.2+1))))else (nO e_1 zone_2 s_15.2).bind λr_27=>(bif (decide (r_27.From<wv_3.To))then some (decide (r_27.To>wv_3.From))else some false).bind λv_30=>(bif v_30 then (nE s_15.1 ([r_27]:List Window)).bind λa_37=>some a_37 else some s_15.1).bind λv_33=>some (.go (v_33,(w64 (s_15.2+1))))else some (.brk (s_15.1,s_15.2))
theorem xX (wv_3:Window) (zone_2:Int) (e_1:Entry) (s_15:(List Window)×Int):Le (og wv_3 zone_2 e_1 s_15) (jL wv_3 zone_2 e_1 s_15):=by
 unfold og jL
 repeat' (with_reducible first | exact Le.refl _ | exact AC _ _ | refine Le.loop (λ_ => ?_) | refine Le.forL (λ_ _ _ => ?_) | refine Le.thenC (λ_ => ?_) (λ_ => ?_) | refine Le.cond ?_ ?_ | refine Le.bind ?_ (λ_ => ?_))
def q9 (e_1:Entry) (zone_2:Int) (wv_3:Window):Option ((List Window)) :=
 (bif e_1.Gone then some true else some (decide (wv_3.From>=wv_3.To))).bind λv_6=>bif v_6 then some ([]:(List Window))else (qo (([]:List Window),(bW (w64 ((w64 ((w64 (wv_3.From+(w64 (zone_2*60000)))).tdiv 86400000))-2)) e_1.First)) (λs=>og wv_3 zone_2 e_1 s)).bind λo_21=>thenC o_21 (λs_15=>some s_15.1) (λ_=>none)
theorem Af (e_1:Entry) (zone_2:Int) (wv_3:Window):Le (q9 e_1 zone_2 wv_3) (mr e_1 zone_2 wv_3):=by
 unfold q9 mr
 repeat' (with_reducible first | exact Le.refl _ | exact xX _ _ _ _ | refine Le.loop (λ_ => ?_) | refine Le.forL (λ_ _ _ => ?_) | refine Le.thenC (λ_ => ?_) (λ_ => ?_) | refine Le.cond ?_ ?_ | refine Le.bind ?_ (λ_ => ?_))
def qN (e_1:Entry) (zone_2:Int) (wv_3:Window):Option ((List Window)×Int) :=
 (kX ([e_1]:List Entry)).bind λr_6=>bif (r_6 != 0)then some (([]:(List Window)),r_6)else (aQ zone_2 (-1440) 1440).bind λr_9=>bif r_9 then some (([]:(List Window)),1)else (jJ wv_3).bind λr_12=>bif (r_12 != 0)then some (([]:(List Window)),r_12)else (q9 e_1 zone_2 wv_3).bind λr_15=>(forL (List.range ((r_15.length:Int)).toNat) r_15 (λk x s=>lV wv_3 k x s)).bind λo_27=>thenC o_27 (λs_24=>some (s_24,0)) (λ_=>none)
theorem AQ (e_1:Entry) (zone_2:Int) (wv_3:Window):Le (qN e_1 zone_2 wv_3) (l6 e_1 zone_2 wv_3):=by
 unfold qN l6
 repeat' (with_reducible first | exact Le.refl _ | exact uE _ | exact Af _ _ _ | refine Le.loop (λ_ => ?_) | refine Le.forL (λ_ _ _ => ?_) | refine Le.thenC (λ_ => ?_) (λ_ => ?_) | refine Le.cond ?_ ?_ | refine Le.bind ?_ (λ_ => ?_))
def nT (l_1:(List ByteArray)):Option (Int) :=
 bif (decide ((l_1.length:Int)>20))then some 2 else (mU l_1).bind λr_3=>some r_3
theorem xx (l_1:(List ByteArray)):Le (nT l_1) (jW l_1):=by
 unfold nT jW
 repeat' (with_reducible first | exact Le.refl _ | exact sF _ | refine Le.loop (λ_ => ?_) | refine Le.forL (λ_ _ _ => ?_) | refine Le.thenC (λ_ => ?_) (λ_ => ?_) | refine Le.cond ?_ ?_ | refine Le.bind ?_ (λ_ => ?_))
def jd (l_1:(List Campaign)) (k_3:Nat) (x_5:Campaign) (s_8:Unit):Option (Ctl (Unit) (Int)) :=
 ((gW x_5.Key).bind λr_16=>bif (!r_16)then some true else bif (sNe x_5.Class (⟨#[]⟩:ByteArray))then (gW x_5.Class).bind λr_20=>some (!r_20)else some false).bind λv_14=>bif v_14 then some (.ret 5)else (bif (decide ((k_3:Int)>0))then (idx l_1 (w64 ((k_3:Int)-1))).bind λy_26=>some (sLe x_5.Key y_26.Key)else some false).bind λv_23=>bif v_23 then some (.ret 7)else ((o5 x_5.Time).bind λr_31=>bif (!r_31)then some true else (aQ x_5.Goal 0 1000000).bind λr_34=>bif r_34 then some true else (aQ x_5.Most 0 1000000).bind λr_37=>bif r_37 then some true else (aQ x_5.Cents 0 1000000000).bind λr_40=>some r_40).bind λv_29=>bif v_29 then some (.ret 1)else (nT x_5.Tags).bind λr_43=>bif (r_43 != 0)then some (.ret r_43)else some (.go ())
theorem qW (l_1:(List Campaign)) (k_3:Nat) (x_5:Campaign) (s_8:Unit):Le (jd l_1 k_3 x_5 s_8) (fB l_1 k_3 x_5 s_8):=by
 unfold jd fB
 repeat' (with_reducible first | exact Le.refl _ | exact jG _ | exact xx _ | refine Le.loop (λ_ => ?_) | refine Le.forL (λ_ _ _ => ?_) | refine Le.thenC (λ_ => ?_) (λ_ => ?_) | refine Le.cond ?_ ?_ | refine Le.bind ?_ (λ_ => ?_))
def kQ (l_1:(List Campaign)):Option (Int) :=
 bif (decide ((l_1.length:Int)>30))then some 2 else (forL l_1 () (λk x s=>jd l_1 k x s)).bind λo_11=>thenC o_11 (λs_8=>some 0) (λr=>some r)
theorem tL (l_1:(List Campaign)):Le (kQ l_1) (gH l_1):=by
 unfold kQ gH
 repeat' (with_reducible first | exact Le.refl _ | exact qW _ _ _ _ | refine Le.loop (λ_ => ?_) | refine Le.forL (λ_ _ _ => ?_) | refine Le.thenC (λ_ => ?_) (λ_ => ?_) | refine Le.cond ?_ ?_ | refine Le.bind ?_ (λ_ => ?_))
def vz (c_1:Campaign) (atv_2:Int):Option (Int×Int) :=
 (kQ ([c_1]:List Campaign)).bind λr_4=>bif (r_4 != 0)then some (0,r_4)else (dQ atv_2).bind λr_7=>bif (!r_7)then some (0,1)else (uj c_1 atv_2).bind λr_10=>some (r_10,0)
theorem DJ (c_1:Campaign) (atv_2:Int):Le (vz c_1 atv_2) (qm c_1 atv_2):=by
 unfold vz qm
 repeat' (with_reducible first | exact Le.refl _ | exact tL _ | refine Le.loop (λ_ => ?_) | refine Le.forL (λ_ _ _ => ?_) | refine Le.thenC (λ_ => ?_) (λ_ => ?_) | refine Le.cond ?_ ?_ | refine Le.bind ?_ (λ_ => ?_))
def l9 (l_1:(List Beat)) (k_3:Nat) (x_5:Beat) (s_8:Unit):Option (Ctl (Unit) (Int)) :=
 (gW x_5.Player).bind λr_14=>bif (!r_14)then some (.ret 5)else ((dQ x_5.At).bind λr_19=>bif (!r_19)then some true else (aQ x_5.Clock 0 345686399999).bind λr_22=>some r_22).bind λv_17=>bif v_17 then some (.ret 1)else (bif (decide ((k_3:Int)>0))then (idx l_1 (w64 ((k_3:Int)-1))).bind λy_28=>(lc y_28 x_5).bind λr_30=>some (decide (r_30>=0))else some false).bind λv_25=>bif v_25 then some (.ret 7)else (bif (decide ((k_3:Int)>0))then (idx l_1 (w64 ((k_3:Int)-1))).bind λy_36=>bif (sEq x_5.Player y_36.Player)then (idx l_1 (w64 ((k_3:Int)-1))).bind λy_39=>some (decide (x_5.Clock<=y_39.Clock))else some false else some false).bind λv_33=>bif v_33 then some (.ret 16)else some (.go ())
theorem wG (l_1:(List Beat)) (k_3:Nat) (x_5:Beat) (s_8:Unit):Le (l9 l_1 k_3 x_5 s_8) (iP l_1 k_3 x_5 s_8):=by
 unfold l9 iP
 repeat' (with_reducible first | exact Le.refl _ | exact jG _ | refine Le.loop (λ_ => ?_) | refine Le.forL (λ_ _ _ => ?_) | refine Le.thenC (λ_ => ?_) (λ_ => ?_) | refine Le.cond ?_ ?_ | refine Le.bind ?_ (λ_ => ?_))
def oP (l_1:(List Beat)):Option (Int) :=
 bif (decide ((l_1.length:Int)>500))then some 2 else (forL l_1 () (λk x s=>l9 l_1 k x s)).bind λo_11=>thenC o_11 (λs_8=>some 0) (λr=>some r)
theorem yJ (l_1:(List Beat)):Le (oP l_1) (kI l_1):=by
 unfold oP kI
 repeat' (with_reducible first | exact Le.refl _ | exact wG _ _ _ _ | refine Le.loop (λ_ => ?_) | refine Le.forL (λ_ _ _ => ?_) | refine Le.thenC (λ_ => ?_) (λ_ => ?_) | refine Le.cond ?_ ?_ | refine Le.bind ?_ (λ_ => ?_))
def uy (l_1:(List Beat_)) (n_2:Int):Option (Int×Int) :=
 bif ((l_1.length:Int)==0)then some (0,8)else (qo 0 (λs=>nR l_1 n_2 s)).bind λo_12=>thenC o_12 (λs_9=>bif (s_9==0)then (idx l_1 0).bind λy_21=>(idx l_1 0).bind λy_23=>(dQ (w64 (y_21.f_to-(w64 (y_23.f_from-n_2))))).bind λr_25=>bif (!r_25)then some (0,11)else some ((w64 (y_21.f_to-(w64 (y_23.f_from-n_2)))),0)else bif (s_9==(l_1.length:Int))then (idx l_1 (w64 (s_9-1))).bind λy_29=>(idx l_1 (w64 (s_9-1))).bind λy_31=>(dQ (w64 ((w64 (y_29.f_to+n_2))-y_31.f_from))).bind λr_33=>bif (!r_33)then some (0,11)else some ((w64 ((w64 (y_29.f_to+n_2))-y_31.f_from)),0)else (idx l_1 (w64 (s_9-1))).bind λy_36=>(idx l_1 s_9).bind λy_38=>(bif (decide ((w64 (y_38.f_from-y_36.f_from))>2592000000))then some true else some (decide ((w64 (y_38.f_to-y_36.f_to))>2592000000))).bind λv_42=>bif v_42 then some (0,2)else (BL .i64 (w64 ((w64 (n_2-y_36.f_from))*(w64 (y_38.f_to-y_36.f_to)))) (w64 (y_38.f_from-y_36.f_from))).bind λq_46=>(dQ (w64 (y_36.f_to+q_46))).bind λr_48=>bif (!r_48)then some (0,11)else some ((w64 (y_36.f_to+q_46)),0)) (λ_=>none)
theorem CW (l_1:(List Beat_)) (n_2:Int):Le (uy l_1 n_2) (oG l_1 n_2):=by
 unfold uy oG
 repeat' (with_reducible first | exact Le.refl _ | refine Le.loop (λ_ => ?_) | refine Le.forL (λ_ _ _ => ?_) | refine Le.thenC (λ_ => ?_) (λ_ => ?_) | refine Le.cond ?_ ?_ | refine Le.bind ?_ (λ_ => ?_))
def vN (l_1:(List Beat)) (player_2:ByteArray) (n_3:Int) (back_4:Bool):Option (Int×Int) :=
 (oP l_1).bind λr_5=>bif (r_5 != 0)then some (0,r_5)else (gW player_2).bind λr_8=>bif (!r_8)then some (0,5)else (dQ n_3).bind λr_11=>bif (!r_11)then some (0,1)else (ql l_1 player_2 back_4).bind λr_14=>(uy r_14 n_3).bind λr_16=>some (r_16.1,r_16.2)
theorem EF (l_1:(List Beat)) (player_2:ByteArray) (n_3:Int) (back_4:Bool):Le (vN l_1 player_2 n_3 back_4) (qy l_1 player_2 n_3 back_4):=by
 unfold vN qy
 repeat' (with_reducible first | exact Le.refl _ | exact jG _ | exact yJ _ | exact CW _ _ | refine Le.loop (λ_ => ?_) | refine Le.forL (λ_ _ _ => ?_) | refine Le.thenC (λ_ => ?_) (λ_ => ?_) | refine Le.cond ?_ ?_ | refine Le.bind ?_ (λ_ => ?_))
def vW (l_1:(List Beat)) (player_2:ByteArray) (clock_3:Int):Option (Int×Int) :=
 (vN l_1 player_2 clock_3 false).bind λr_4=>some (r_4.1,r_4.2)
theorem ET (l_1:(List Beat)) (player_2:ByteArray) (clock_3:Int):Le (vW l_1 player_2 clock_3) (qB l_1 player_2 clock_3):=by
 unfold vW qB
 repeat' (with_reducible first | exact Le.refl _ | exact EF _ _ _ _ | refine Le.loop (λ_ => ?_) | refine Le.forL (λ_ _ _ => ?_) | refine Le.thenC (λ_ => ?_) (λ_ => ?_) | refine Le.cond ?_ ?_ | refine Le.bind ?_ (λ_ => ?_))
def nu (a_1:Alert) (k_4:Nat) (x_6:ByteArray) (s_9:Unit):Option (Ctl (Unit) (Int)) :=
 (gW x_6).bind λr_14=>bif (!r_14)then some (.ret 5)else (bif (decide ((k_4:Int)>0))then (idx a_1.Refs (w64 ((k_4:Int)-1))).bind λy_20=>some (sLe x_6 y_20)else some false).bind λv_17=>bif v_17 then some (.ret 7)else bif (sEq x_6 a_1.Id)then some (.ret 14)else some (.go ())
theorem wX (a_1:Alert) (k_4:Nat) (x_6:ByteArray) (s_9:Unit):Le (nu a_1 k_4 x_6 s_9) (je a_1 k_4 x_6 s_9):=by
 unfold nu je
 repeat' (with_reducible first | exact Le.refl _ | exact jG _ | refine Le.loop (λ_ => ?_) | refine Le.forL (λ_ _ _ => ?_) | refine Le.thenC (λ_ => ?_) (λ_ => ?_) | refine Le.cond ?_ ?_ | refine Le.bind ?_ (λ_ => ?_))
def pU (a_1:Alert):Option (Int) :=
 bif (decide ((a_1.Refs.length:Int)>20))then some 2 else (forL a_1.Refs () (λk x s=>nu a_1 k x s)).bind λo_12=>thenC o_12 (λs_9=>bif (!((a_1.Kind==1)==((a_1.Refs.length:Int)==0)))then some 3 else some 0) (λr=>some r)
theorem zn (a_1:Alert):Le (pU a_1) (lH a_1):=by
 unfold pU lH
 repeat' (with_reducible first | exact Le.refl _ | exact wX _ _ _ _ | refine Le.loop (λ_ => ?_) | refine Le.forL (λ_ _ _ => ?_) | refine Le.thenC (λ_ => ?_) (λ_ => ?_) | refine Le.cond ?_ ?_ | refine Le.bind ?_ (λ_ => ?_))
def iL (s_7:ByteArray):Option (Ctl (ByteArray) (Unit)) :=
 bif (decide ((s_7.size:Int)>0))then (pg s_7 0).bind λb_13=>bif (decide ((b_13.toNat:Int)<128))then (sH s_7 1 s_7.size).bind λy_16=>(bif (decide ((y_16.size:Int)>8))then (bE y_16).bind λr_21=>some ((vX .u64 r_21 9259542123273814144)==0)else some false).bind λv_18=>(bif v_18 then (sH y_16 8 y_16.size).bind λy_26=>(bif (decide ((y_26.size:Int)>16))then (bE y_26).bind λr_31=>(sH y_26 8 y_26.size).bind λy_33=>(bE y_33).bind λr_35=>some ((vX .u64 (orI .u64 r_31 r_35) 9259542123273814144)==0)else some false).bind λv_28=>bif v_28 then (sH y_26 16 y_26.size).bind λy_38=>(qo y_38 (λs=>gq s)).bind λo_48=>thenC o_48 (λs_45=>some s_45) (λ_=>none)else some y_26 else some y_16).bind λv_23=>some (.go v_23)else none else some (.brk s_7)
theorem p9 (s_7:ByteArray):Le (iL s_7) (eO s_7):=by
 unfold iL eO
 repeat' (with_reducible first | exact Le.refl _ | refine Le.loop (λ_ => ?_) | refine Le.forL (λ_ _ _ => ?_) | refine Le.thenC (λ_ => ?_) (λ_ => ?_) | refine Le.cond ?_ ?_ | refine Le.bind ?_ (λ_ => ?_))
def jC (s_1:ByteArray):Option (Bool) :=
 (qo s_1 (λs=>iL s)).bind λo_10=>thenC o_10 (λs_7=>some true) (λ_=>none)
theorem rE (s_1:ByteArray):Le (jC s_1) (fP s_1):=by
 unfold jC fP
 repeat' (with_reducible first | exact Le.refl _ | exact p9 _ | refine Le.loop (λ_ => ?_) | refine Le.forL (λ_ _ _ => ?_) | refine Le.thenC (λ_ => ?_) (λ_ => ?_) | refine Le.cond ?_ ?_ | refine Le.bind ?_ (λ_ => ?_))
def ll (s_1:ByteArray) (c_2:Int):Option (ByteArray) :=
 (qo s_1 (λs=>gZ c_2 s)).bind λo_11=>thenC o_11 (λs_8=>some s_8) (λ_=>none)
theorem uz (s_1:ByteArray) (c_2:Int):Le (ll s_1 c_2) (strings_trimRightByte s_1 c_2):=by
 unfold ll strings_trimRightByte
 repeat' (with_reducible first | exact Le.refl _ | refine Le.loop (λ_ => ?_) | refine Le.forL (λ_ _ _ => ?_) | refine Le.thenC (λ_ => ?_) (λ_ => ?_) | refine Le.cond ?_ ?_ | refine Le.bind ?_ (λ_ => ?_))
def lN (s_1:ByteArray) (c_2:Int):Option (ByteArray) :=
 (qo s_1 (λs=>iC c_2 s)).bind λo_11=>thenC o_11 (λs_8=>some s_8) (λ_=>none)
theorem uP (s_1:ByteArray) (c_2:Int):Le (lN s_1 c_2) (strings_trimLeftByte s_1 c_2):=by
 unfold lN strings_trimLeftByte
 repeat' (with_reducible first | exact Le.refl _ | refine Le.loop (λ_ => ?_) | refine Le.forL (λ_ _ _ => ?_) | refine Le.thenC (λ_ => ?_) (λ_ => ?_) | refine Le.cond ?_ ?_ | refine Le.bind ?_ (λ_ => ?_))
def uq (s_1:ByteArray) (cutset_2:ByteArray):Option (ByteArray) :=
 (bif (sEq s_1 (⟨#[]⟩:ByteArray))then some true else some (sEq cutset_2 (⟨#[]⟩:ByteArray))).bind λv_3=>bif v_3 then some s_1 else (bif ((cutset_2.size:Int)==1)then (pg cutset_2 0).bind λb_10=>some (decide ((b_10.toNat:Int)<128))else some false).bind λv_7=>bif v_7 then (pg cutset_2 0).bind λb_13=>(ll s_1 (b_13.toNat:Int)).bind λr_15=>(pg cutset_2 0).bind λb_17=>(lN r_15 (b_17.toNat:Int)).bind λr_19=>some r_19 else none
theorem CZ (s_1:ByteArray) (cutset_2:ByteArray):Le (uq s_1 cutset_2) (oN s_1 cutset_2):=by
 unfold uq oN
 repeat' (with_reducible first | exact Le.refl _ | exact uz _ _ | exact uP _ _ | refine Le.loop (λ_ => ?_) | refine Le.forL (λ_ _ _ => ?_) | refine Le.thenC (λ_ => ?_) (λ_ => ?_) | refine Le.cond ?_ ?_ | refine Le.bind ?_ (λ_ => ?_))
def ww (s_1:ByteArray):Option (Bool) :=
 (qo 0 (λs=>oK s_1 s)).bind λo_10=>thenC o_10 (λs_7=>((jC s_1).bind λr_23=>bif r_23 then (uq s_1 (⟨#[32]⟩:ByteArray)).bind λr_26=>bif (sEq r_26 s_1)then (strings_Contains s_1 (⟨#[32,32]⟩:ByteArray)).bind λr_29=>some (!r_29)else some false else some false).bind λv_21=>some v_21) (λr=>some r)
theorem EG (s_1:ByteArray):Le (ww s_1) (qG s_1):=by
 unfold ww qG
 repeat' (with_reducible first | exact Le.refl _ | exact rE _ | exact CZ _ _ | refine Le.loop (λ_ => ?_) | refine Le.forL (λ_ _ _ => ?_) | refine Le.thenC (λ_ => ?_) (λ_ => ?_) | refine Le.cond ?_ ?_ | refine Le.bind ?_ (λ_ => ?_))
def oH (a_1:Alert):Option (Int) :=
 ((gW a_1.Id).bind λr_5=>bif (!r_5)then some true else (gW a_1.Sender).bind λr_8=>some (!r_8)).bind λv_3=>bif v_3 then some 5 else (aQ a_1.Kind 1 3).bind λr_11=>bif r_11 then some 4 else (pU a_1).bind λr_14=>bif (r_14 != 0)then some r_14 else ((dQ a_1.At).bind λr_19=>bif (!r_19)then some true else (aQ a_1.Until (w64 (a_1.At+1)) (w64 (a_1.At+2592000000))).bind λr_22=>bif r_22 then some true else (aQ a_1.Weight 1 9).bind λr_25=>some r_25).bind λv_17=>bif v_17 then some 1 else bif (decide ((a_1.Areas.length:Int)>20))then some 2 else (forL a_1.Areas () (λk x s=>kg k x s)).bind λo_37=>thenC o_37 (λs_34=>bif (!((a_1.Kind==3)==((a_1.Areas.length:Int)==0)))then some 3 else bif (decide ((a_1.Text.size:Int)>500))then some 2 else ((ww a_1.Text).bind λr_47=>bif (!r_47)then some true else bif (sEq a_1.Text (⟨#[]⟩:ByteArray))then some (!(a_1.Kind==3))else some false).bind λv_45=>bif v_45 then some 3 else some 0) (λr=>some r)
theorem yF (a_1:Alert):Le (oH a_1) (kM a_1):=by
 unfold oH kM
 repeat' (with_reducible first | exact Le.refl _ | exact jG _ | exact zn _ | exact EG _ | refine Le.loop (λ_ => ?_) | refine Le.forL (λ_ _ _ => ?_) | refine Le.thenC (λ_ => ?_) (λ_ => ?_) | refine Le.cond ?_ ?_ | refine Le.bind ?_ (λ_ => ?_))
def lK (l_1:(List Alert)) (k_3:Nat) (x_5:Alert) (s_8:Unit):Option (Ctl (Unit) (Int)) :=
 (oH x_5).bind λr_14=>bif (r_14 != 0)then some (.ret r_14)else (bif (decide ((k_3:Int)>0))then (idx l_1 (w64 ((k_3:Int)-1))).bind λy_20=>(qf y_20 x_5).bind λr_22=>some (decide (r_22>=0))else some false).bind λv_17=>bif v_17 then some (.ret 7)else some (.go ())
theorem uZ (l_1:(List Alert)) (k_3:Nat) (x_5:Alert) (s_8:Unit):Le (lK l_1 k_3 x_5 s_8) (iy l_1 k_3 x_5 s_8):=by
 unfold lK iy
 repeat' (with_reducible first | exact Le.refl _ | exact yF _ | refine Le.loop (λ_ => ?_) | refine Le.forL (λ_ _ _ => ?_) | refine Le.thenC (λ_ => ?_) (λ_ => ?_) | refine Le.cond ?_ ?_ | refine Le.bind ?_ (λ_ => ?_))
def nZ (l_1:(List Alert)):Option (Int) :=
 bif (decide ((l_1.length:Int)>300))then some 2 else (forL l_1 () (λk x s=>lK l_1 k x s)).bind λo_11=>thenC o_11 (λs_8=>(forL l_1 ([]:List (ByteArray×Bool)) (λk x s=>jS k x s)).bind λo_34=>thenC o_34 (λs_31=>some 0) (λr=>some r)) (λr=>some r)
theorem xA (l_1:(List Alert)):Le (nZ l_1) (jI l_1):=by
 unfold nZ jI
 repeat' (with_reducible first | exact Le.refl _ | exact uZ _ _ _ _ | refine Le.loop (λ_ => ?_) | refine Le.forL (λ_ _ _ => ?_) | refine Le.thenC (λ_ => ?_) (λ_ => ?_) | refine Le.cond ?_ ?_ | refine Le.bind ?_ (λ_ => ?_))
def mH (l_1:(List Post)) (k_3:Nat) (x_5:Post) (s_8:Unit):Option (Ctl (Unit) (Int)) :=
 (gW x_5.Player).bind λr_14=>bif (!r_14)then some (.ret 5)else ((aQ x_5.X (-100000) 100000).bind λr_19=>bif r_19 then some true else (aQ x_5.Y (-100000) 100000).bind λr_22=>some r_22).bind λv_17=>bif v_17 then some (.ret 1)else (bif (decide ((k_3:Int)>0))then (idx l_1 (w64 ((k_3:Int)-1))).bind λy_28=>some (sLe x_5.Player y_28.Player)else some false).bind λv_25=>bif v_25 then some (.ret 7)else some (.go ())
theorem wu (l_1:(List Post)) (k_3:Nat) (x_5:Post) (s_8:Unit):Le (mH l_1 k_3 x_5 s_8) (iQ l_1 k_3 x_5 s_8):=by
 unfold mH iQ
 repeat' (with_reducible first | exact Le.refl _ | exact jG _ | refine Le.loop (λ_ => ?_) | refine Le.forL (λ_ _ _ => ?_) | refine Le.thenC (λ_ => ?_) (λ_ => ?_) | refine Le.cond ?_ ?_ | refine Le.bind ?_ (λ_ => ?_))
def o6 (l_1:(List Post)):Option (Int) :=
 bif (decide ((l_1.length:Int)>500))then some 2 else (forL l_1 () (λk x s=>mH l_1 k x s)).bind λo_11=>thenC o_11 (λs_8=>some 0) (λr=>some r)
theorem yD (l_1:(List Post)):Le (o6 l_1) (kr l_1):=by
 unfold o6 kr
 repeat' (with_reducible first | exact Le.refl _ | exact wu _ _ _ _ | refine Le.loop (λ_ => ?_) | refine Le.forL (λ_ _ _ => ?_) | refine Le.thenC (λ_ => ?_) (λ_ => ?_) | refine Le.cond ?_ ?_ | refine Le.bind ?_ (λ_ => ?_))
def pQ (l_1:(List Alert)) (posts_2:(List Post)):Option (Int) :=
 (nZ l_1).bind λr_3=>bif (r_3 != 0)then some r_3 else (o6 posts_2).bind λr_6=>some r_6
theorem zO (l_1:(List Alert)) (posts_2:(List Post)):Le (pQ l_1 posts_2) (lC l_1 posts_2):=by
 unfold pQ lC
 repeat' (with_reducible first | exact Le.refl _ | exact xA _ | exact yD _ | refine Le.loop (λ_ => ?_) | refine Le.forL (λ_ _ _ => ?_) | refine Le.thenC (λ_ => ?_) (λ_ => ?_) | refine Le.cond ?_ ?_ | refine Le.bind ?_ (λ_ => ?_))
def si (a_1:Alert) (p_2:Post):Option (Bool×Int) :=
 (pQ ([a_1]:List Alert) ([p_2]:List Post)).bind λr_5=>bif (r_5 != 0)then some (false,r_5)else (qh a_1 p_2).bind λr_8=>some (r_8,0)
theorem Ba (a_1:Alert) (p_2:Post):Le (si a_1 p_2) (nI a_1 p_2):=by
 unfold si nI
 repeat' (with_reducible first | exact Le.refl _ | exact zO _ _ | refine Le.loop (λ_ => ?_) | refine Le.forL (λ_ _ _ => ?_) | refine Le.thenC (λ_ => ?_) (λ_ => ?_) | refine Le.cond ?_ ?_ | refine Le.bind ?_ (λ_ => ?_))
def xh  : Option (Bool) :=
 (vw ([(⟨0,0,2,2⟩:Rect),(⟨1,1,2,2⟩:Rect)]:List Rect)).bind λr_1=>(qN (⟨(⟨#[97]⟩:ByteArray),(⟨#[98]⟩:ByteArray),0,0,0,1,127,([]:List Int),1,2,0,([]:List ByteArray),false⟩:Entry) 0 (⟨0,86400000⟩:Window)).bind λr_3=>(vz (⟨(⟨#[97]⟩:ByteArray),(⟨#[]⟩:ByteArray),(⟨0,100⟩:Window),([]:List ByteArray),10,0,0⟩:Campaign) 50).bind λr_5=>(vW ([(⟨(⟨#[112]⟩:ByteArray),0,100⟩:Beat),(⟨(⟨#[112]⟩:ByteArray),1000,1300⟩:Beat)]:List Beat) (⟨#[112]⟩:ByteArray) 700).bind λr_7=>(si (⟨(⟨#[97]⟩:ByteArray),(⟨#[115]⟩:ByteArray),1,([]:List ByteArray),0,5,1,([(⟨0,0,2,2⟩:Rect)]:List Rect),(⟨#[120]⟩:ByteArray)⟩:Alert) (⟨(⟨#[112]⟩:ByteArray),1,1⟩:Post)).bind λr_10=>((yh ([r_1.2,r_3.2,r_5.2,r_7.2,r_10.2]:List Int)).bind λr_14=>bif (r_14==0)then bif (r_1.1==7)then bif ((r_3.1.length:Int)==1)then bif (r_5.1==5)then bif (r_7.1==500)then some r_10.1 else some false else some false else some false else some false else some false).bind λv_12=>some v_12
theorem FT  : Le (xh) (pR):=by
 unfold xh pR
 repeat' (with_reducible first | exact Le.refl _ | exact Fy _ | exact AQ _ _ _ | exact DJ _ _ | exact ET _ _ _ | exact Ba _ _ | refine Le.loop (λ_ => ?_) | refine Le.forL (λ_ _ _ => ?_) | refine Le.thenC (λ_ => ?_) (λ_ => ?_) | refine Le.cond ?_ ?_ | refine Le.bind ?_ (λ_ => ?_))
end Go.Proofs.YtnkgapmhkhcanaaGreatDoor.Law

open Go Go.Eng
namespace Go.Proofs.YtnkgapmhkhcanaaGreatDoor.Law
set_option linter.unusedVariables false
set_option maxRecDepth 100000
theorem ready_F:xh=some true:=by kernel_rfl
theorem Po:pR=some true:=FT _ ready_F
end Go.Proofs.YtnkgapmhkhcanaaGreatDoor.Law

open Go Go.Eng
namespace Go.Proofs.YtnkgapmhkhcanaaGreatDoor.Law
set_option linter.unusedVariables false
set_option linter.unusedSimpArgs false
theorem Mq {α σ ρ:Type} {body:Nat->α->σ->Option (Ctl σ ρ)} (I:Nat->σ->Prop) (xs:List α):∀(l:List α) (k:Nat) (s:σ),xs.drop k=l->k<=xs.length->(∀k x s,xs[k]? = some x->I k s->∃s',body k x s=some (.go s')/\I (k+1) s')->I k s->∃s',forR body l k s=some (.go s')/\I xs.length s'
 | [],k,s,hd,hk,h,hi=>by
  have:=List.drop_eq_nil_iff.1 hd
  obtain rfl:k=xs.length:=by omega
  exact⟨s,rfl,hi⟩
 | x::l,k,s,hd,hk,h,hi=>by
  obtain ⟨s1,h1,h2⟩:=h k x s (rZ hd) hi
  obtain ⟨s2,h3,h4⟩:=Mq I xs l (k+1) s1 (aN hd) (by have:=ul hd;omega) h h2
  exact⟨s2,by rw [forR,h1,ob_];exact h3,h4⟩
theorem forL_at {α σ ρ:Type} {body:Nat->α->σ->Option (Ctl σ ρ)} (I:Nat->σ->Prop) {xs:List α} {s:σ} (hl:xs.length<=1000000000000) (h:∀k x s,xs[k]? = some x->I k s->∃s',body k x s=some (.go s')/\I (k+1) s') (h0:I 0 s):∃s',forL xs s body=some (.go s')/\I xs.length s':=by
 rw [dz hl]
 exact Mq I xs xs 0 s rfl (Nat.zero_le _) h h0
theorem Pz {α β:Type} {f:α->β} {ks:List β} {k:Nat} {x:β} {l:List α} (hx:ks[k]? = some x) (h:(l.map f).Sublist (ks.take k)):(l.map f).Sublist (ks.take (k+1))/\∀c,f c=x->((l++[c]).map f).Sublist (ks.take (k+1)):=by
 have e:ks.take (k+1)=ks.take k++[x]:=by
  rw [List.take_add_one,hx];rfl
 rw [e]
 refine⟨h.trans (List.sublist_append_left _ _),λc hc => ?_⟩
 rw [List.map_append]
 refine h.append ?_
 rw [List.map_cons,hc]
 exact List.Sublist.refl _
theorem Bp {a b:ByteArray} (h:sLt a b=true):lt a b:=(MF a b).1 h
end Go.Proofs.YtnkgapmhkhcanaaGreatDoor.Law

open Go Go.Eng
namespace Go.Proofs.YtnkgapmhkhcanaaGreatDoor.Law
set_option linter.unusedVariables false
set_option linter.unusedSimpArgs false
end Go.Proofs.YtnkgapmhkhcanaaGreatDoor.Law

open Go Go.Eng
namespace Go.Proofs.YtnkgapmhkhcanaaGreatDoor.Law
set_option linter.unusedVariables false
set_option linter.unusedSimpArgs false
def Bb (w:Wall) (last:ByteArray) (s:Screen):Int:=bif !pq s.Key then 5 else bif uB s.On then 1 else bif !uR s.On w.W w.H then 3 else bif sLe s.Key last then 7 else 0
theorem meet_ok (a b:Rect):∃m,kW a b=some m:=by
 unfold kW
 cases decide (w64 (fD (w64 (a.X+a.W)) (w64 (b.X+b.W))-bW a.X b.X)<=0) <;> cases decide (w64 (fD (w64 (a.Y+a.H)) (w64 (b.Y+b.H))-bW a.Y b.Y)<=0) <;> exact⟨_,rfl⟩
def BQ (w:Wall):Option Int:=(forL w.Screens () (λk x s=>bH w k x s)).bind λo_44=>thenC o_44 (λs_41=>some 0) (λr=>some r)
theorem KG (w:Wall):(λk x s=>mO w k x s)=λk x s=>bH w k x s:=rfl
theorem N7 (w:Wall) (hl:w.Screens.length<=1000):∃e,BQ w=some e:=by
 have inner:∀(x:Screen) (l:List Screen) (k:Nat),forR (λk x_51 s=>dn x k x_51 s) l k ()=some (.go ())\/forR (λk x_51 s=>dn x k x_51 s) l k ()=some (.ret 13):=by
  intro x l
  induction l with
  | nil=>exact λ_ => .inl rfl
  | cons y l ih =>
   intro k
   obtain ⟨m,hm⟩:=meet_ok x.On y.On
   rw [forR]
   have:dn x k y ()=some (bif m.2 then .ret 13 else .go ()):=by
    unfold dn
    rw [hm,ob_]
    cases m.2 <;> rfl
   rw [this,ob_]
   cases m.2 with
   | true=>exact .inr rfl
   | false=>exact ih (k+1)
 have outer:∀(l:List Screen) (k:Nat),w.Screens.drop k=l->forR (λk x s=>bH w k x s) l k ()=some (.go ())\/forR (λk x s=>bH w k x s) l k ()=some (.ret 13):=by
  intro l
  induction l with
  | nil=>exact λ_ _ => .inl rfl
  | cons x l ih =>
   intro k h
   have hlt:=ul h
   have hsub:FC w.Screens 0 (k:Int)=some (w.Screens.take k):=by
    unfold FC
    rw [if_pos ⟨by omega,by omega,by omega,by omega⟩];simp
   rw [forR]
   have hB:bH w k x ()=some (.go ())\/bH w k x ()=some (.ret 13):=by
    unfold bH
    rw [hsub,ob_,dz (by rw [List.length_take];omega)]
    rcases inner x (w.Screens.take k) 0 with h1|h1
    ·left;rw [h1];rfl
    ·right;rw [h1];rfl
   rcases hB with hB|hB
   ·rw [hB,ob_];exact ih (k+1) (aN h)
   ·rw [hB];exact .inr rfl
 unfold BQ
 rw [dz (by omega)]
 rcases outer w.Screens 0 rfl with h|h
 ·exact⟨0,by rw [h];rfl⟩
 ·exact⟨13,by rw [h];rfl⟩
theorem Hf (w:Wall) (hk:w.Key.size<=1000) (hs:∀s∈w.Screens,s.Key.size<=1000) (hl:w.Screens.length<=50):∃e,dJ w=some e/\nJ w=some e /\
  (e=0->Ar w.W=false/\Ar w.H=false/\chk (λs=>s.Key) (Bb w) vU w.Screens=0/\BQ w=some 0):=by
 unfold dJ nJ
 rw [xK w.Key (by omega),F6 w.Key (by omega),Kj,Mh,Mh]
 simp only [ob_,Bool.not_not]
 cases pq w.Key with
 | false=>exact⟨5,rfl,rfl,λh=>by cases h⟩
 | true =>
  cases hW:Ar w.W with
  | true=>exact⟨1,rfl,rfl,λh=>by cases h⟩
  | false =>
   cases hH:Ar w.H with
   | true=>exact⟨1,rfl,rfl,λh=>by cases h⟩
   | false =>
    have hd:decide ((w.Screens.length:Int)>50)=false:=by simp;omega
    simp only [Bool.not_true,cond_false,cond_true,Bool.or_self,bne_self_eq_false,hd,ob_]
    obtain ⟨p,hp⟩:=N7 w (by omega)
    have h1:=Fx (key:=λs:Screen=>s.Key) (stp:=Bb w) (body:=λk x s=>iO w k x s) w.Screens w.Screens 0 rfl (λk x hx=>by
     have hxm:=List.mem_of_getElem? hx
     unfold iO Bb
     rw [xK _ (by have:=hs x hxm;omega),wD,Bw]
     simp only [ob_]
     cases hkey:pq x.Key with
     | false=>rfl
     | true =>
      have hne:x.Key.size≠0:=Mk hkey
      rw [G7 (key:=λs:Screen=>s.Key) hx (by omega) hne]
      cases uB x.On with
      | true=>rfl
      | false =>
       cases uR x.On w.W w.H with
       | false=>rfl
       | true=>cases sLe x.Key (wN (λs:Screen=>s.Key) w.Screens k) <;> rfl)
    obtain ⟨last',h2⟩:=PP (key:=λs:Screen=>s.Key) (stp:=Bb w) (body:=λk x s=>kP w k x s) w.Screens 0 vU (λk x last hxm=>by
     unfold kP Bb
     rw [F6 _ (by have:=hs x hxm;omega),IQ,Nf]
     simp only [ob_]
     cases pq x.Key <;> cases uB x.On <;> cases uR x.On w.W w.H <;> cases sLe x.Key last <;> rfl)
    have h0:wN (λs:Screen=>s.Key) w.Screens 0=vU:=rfl
    rw [h0]at h1
    rw [dz (by omega),h1,dz (xs:=w.Screens) (s:=(⟨#[]⟩:ByteArray)) (by omega)]
    rw [show (⟨#[]⟩:ByteArray)=vU from rfl,h2]
    cases hc:chk (λs:Screen=>s.Key) (Bb w) vU w.Screens==0 with
    | true =>
     refine⟨p,?_,?_,λhp0=>⟨trivial,trivial,eq_of_beq hc,by rw [hp,hp0]⟩⟩
     ·simp only [MW,hc,cond_true,ob_,thenC];exact hp
     ·simp only [cond_true,ob_,thenC];rw [KG];exact hp
    | false =>
     refine⟨chk (λs:Screen=>s.Key) (Bb w) vU w.Screens,?_,?_,λe=>by rw [e]at hc;cases hc⟩
     ·simp only [MW,hc,cond_false,ob_,thenC]
     ·simp only [cond_false,ob_,thenC]
end Go.Proofs.YtnkgapmhkhcanaaGreatDoor.Law

open Go Go.Eng
namespace Go.Proofs.YtnkgapmhkhcanaaGreatDoor.Law
set_option linter.unusedVariables false
set_option linter.unusedSimpArgs false
theorem Px (l:List Screen) (h:l.length<=1000000):dE l=some l:=by
 unfold dE
 rw [jO _ _ (by simp;omega)];rfl
def WOk (w:Wall):Prop:=w.Key.size<=1000/\(∀s∈w.Screens,s.Key.size<=1000)
end Go.Proofs.YtnkgapmhkhcanaaGreatDoor.Law

