/-
  THE PLAIN LAW (part 4).
-/
import Derived.Test.YtnkgapmhkhcanaaGreatDoorPl3
open Go Go.Eng
namespace Go.Proofs.YtnkgapmhkhcanaaGreatDoor.Law
set_option linter.unusedVariables false
set_option linter.unusedSimpArgs false
theorem IK (l:Layout) (hk:l.Key.size<=1000) (hs:∀z∈l.Zones,z.Key.size<=1000) (hl:l.Zones.length<=30) (k1:pq l.Key=true) (hW:Ar l.W=false) (hH:Ar l.H=false) (hc:chk (λz=>z.Key) (E8 l) vU l.Zones=0):eZ l=some 0:=by
 unfold eZ
 rw [xK l.Key (by omega),Kj,k1,hW,hH]
 have hd:decide ((l.Zones.length:Int)>30)=false:=by simp;omega
 simp only [Bool.not_true,cond_false,cond_true,Bool.or_self,bne_self_eq_false,hd,ob_]
 have h1:=Fx (key:=λz:Zone=>z.Key) (stp:=E8 l) (body:=λk x s=>gN l k x s) l.Zones l.Zones 0 rfl (λk x hx=>by
  have hxm:=List.mem_of_getElem? hx
  unfold gN E8
  rw [xK _ (by have:=hs x hxm;omega),wD,Bw,zb]
  simp only [ob_]
  cases hkey:pq x.Key with
  | false=>rfl
  | true =>
   have hne:x.Key.size≠0:=Mk hkey
   rw [G7 (key:=λz:Zone=>z.Key) hx (by omega) hne]
   cases uB x.On with
   | true=>rfl
   | false =>
    cases uR x.On l.W l.H with
    | false=>rfl
    | true =>
     cases qw x.Order 0 1000 with
     | true=>rfl
     | false=>cases sLe x.Key (wN (λz:Zone=>z.Key) l.Zones k) <;> rfl)
 have h0:wN (λz:Zone=>z.Key) l.Zones 0=vU:=rfl
 rw [h0,hc]at h1
 rw [dz (by omega),h1]
 rfl
theorem GU (l:Layout):∀(zs:List Zone) (last:ByteArray),(∀z∈zs,pq z.Key=true/\uB z.On=false/\uR z.On l.W l.H=true/\qw z.Order 0 1000=false)->(zs.map (·.Key)).Pairwise lt->(∀z∈zs,sLe z.Key last=false)->chk (λz:Zone=>z.Key) (E8 l) last zs=0
 | [],_,_,_,_=>rfl
 | z::zs,last,h,hp,hl=>by
  obtain ⟨h1,h2,h3,h4⟩:=h z (by simp)
  rw [List.map_cons,List.pairwise_cons]at hp
  have h0:E8 l last z=0:=by
   unfold E8
   rw [h1,h2,h3,h4,hl z (by simp)];rfl
  rw [chk,h0]
  show (bif (0:Int)==0 then _ else _)=_
  rw [beq_self_eq_true,cond_true]
  refine GU l zs z.Key (λx hx=>h x (by simp [hx])) hp.2 (λx hx => ?_)
  rw [Bool.eq_false_iff]
  intro he
  exact (De _ _).1 he (hp.1 x.Key (List.mem_map.2 ⟨x,hx,rfl⟩))
def xG:List ByteArray:=[(⟨#[122,97]⟩:ByteArray),(⟨#[122,98]⟩:ByteArray),(⟨#[122,99]⟩:ByteArray),(⟨#[122,100]⟩:ByteArray)]
theorem KH:xG.Pairwise lt:=by
 unfold xG
 simp only [List.pairwise_cons,List.mem_cons,List.not_mem_nil,or_false,forall_eq_or_imp,forall_eq]
 refine⟨⟨Bp (by kernel_rfl),Bp (by kernel_rfl),Bp (by kernel_rfl)⟩,⟨Bp (by kernel_rfl),Bp (by kernel_rfl)⟩,Bp (by kernel_rfl),λa h=>(by cases h),List.Pairwise.nil⟩
theorem MS:∀k∈xG,pq k=true/\k.size<=1000/\sLe k vU=false:=by
 intro k hk
 simp only [xG,List.mem_cons,List.not_mem_nil,or_false]at hk
 rcases hk with rfl|rfl|rfl|rfl <;> exact⟨by kernel_rfl,Nat.le_of_ble_eq_true rfl,by kernel_rfl⟩
theorem Ho (s:Stream) {b:Int} (hs:Ok s b) (hb:b<=700000):∃w s',fJ s=some (w,s')/\eZ w=some 0/\(∀z∈w.Zones,z.Key.size<=1000)/\w.Zones.length<=4/\(1<=w.W/\w.W<=100)/\(1<=w.H/\w.H<=100)/\chk (λz=>z.Key) (E8 w) vU w.Zones=0/\Ok s' (b+50):=by
 unfold fJ
 obtain ⟨W,s1,a1,a0,a2⟩:=Ay s [5,8,10,16] hs (by omega) (by simp) (by simp)
 obtain ⟨H,s2,b1,b0,b2⟩:=Ay s1 [4,6,9] a2 (by omega) (by simp) (by simp)
 have hW:1<=W/\W<=100:=by simp only [List.mem_cons,List.not_mem_nil,or_false]at a0;omega
 have hH:1<=H/\H<=100:=by simp only [List.mem_cons,List.not_mem_nil,or_false]at b0;omega
 simp only [a1,b1,ob_]
 rw [show ([(⟨#[122,97]⟩:ByteArray),(⟨#[122,98]⟩:ByteArray),(⟨#[122,99]⟩:ByteArray),(⟨#[122,100]⟩:ByteArray)]:List ByteArray)=xG from rfl]
 obtain ⟨t,t1,t2,t3,t4⟩:=forL_at (body:=λk x s=>fO (W,s1) (H,s2) k x s) (s:=(([]:List Zone),s2.L,s2.f_at)) (λj t=>(t.1.map (λz:Zone=>z.Key)).Sublist (xG.take j)/\(∀z∈t.1,z.Key.size<=1000/\sLe z.Key vU=false/\pq z.Key=true/\uB z.On=false/\uR z.On W H=true/\qw z.Order 0 1000=false)/\Ok ⟨t.2.1,t.2.2⟩ (b+2+10*j)) (xs:=xG) (by decide) (λj x t hx ⟨i1,i2,i3⟩=>by
  have hj:j<4:=by
   rcases Nat.lt_or_ge j 4 with g|g
   ·exact g
   ·rw [List.getElem?_eq_none (by exact g)]at hx;cases hx
  obtain ⟨n1,n2,n3⟩:=MS x (List.mem_of_getElem? hx)
  obtain ⟨g1',g2'⟩:=Pz (f:=λz:Zone=>z.Key) hx i1
  have hlen:t.1.length<=4:=by
   have:=i1.length_le
   rw [List.length_map,List.length_take]at this
   omega
  unfold fO
  simp only
  obtain ⟨g,q0,g1,g2⟩:=LY _ 5 i3 (by omega) (by decide) (by decide)
  simp only [g1,ob_]
  cases g with
  | true=>exact⟨_,rfl,g1',i2,g2.mono (by omega)⟩
  | false =>
   rw [cond_false,bK (n:=W-1) (by omega),bK (n:=H-1) (by omega)]
   obtain ⟨X,q1,c1,c2,c3,c4⟩:=lF q0 0 (W-1) g2 (by omega) (by omega) (by omega) (by omega)
   obtain ⟨Y,q2,d1,d2,d3,d4⟩:=lF q1 0 (H-1) c4 (by omega) (by omega) (by omega) (by omega)
   obtain ⟨O,q3,o1,o2,o3⟩:=Ay q2 [0,0,1,2] d4 (by omega) (by simp) (by simp)
   obtain ⟨U,q4,e1,e2,e3,e4⟩:=lF q3 1 (W-X) o3 (by omega) (by omega) (by omega) (by omega)
   obtain ⟨V,q5,f1,f2,f3,f4⟩:=lF q4 1 (H-Y) e4 (by omega) (by omega) (by omega) (by omega)
   simp only [c1,d1,o1,ob_]
   rw [bK (n:=W-X) (by omega),bK (n:=H-Y) (by omega)]
   simp only [e1,f1,ob_]
   rw [jO _ _ (by simp;omega)]
   refine⟨_,rfl,g2' _ rfl,λz hz => ?_,f4.mono (by omega)⟩
   rcases List.mem_append.1 hz with hz|hz
   ·exact i2 z hz
   ·rw [List.mem_singleton]at hz
    subst hz
    simp only [List.mem_cons,List.not_mem_nil,or_false]at o2
    refine⟨n2,n3,n1,?_,?_,mW (by show 0<=O/\O<=1000;omega)⟩
    ·unfold uB
     simp only
     rw [bK (n:=100000-X) (by omega),bK (n:=100000-Y) (by omega),mW (by omega),mW (by omega),mW (by omega),mW (by omega)];rfl
    ·unfold uR
     simp only
     rw [bK (n:=X+U) (by omega),bK (n:=Y+V) (by omega),decide_eq_true (by omega),decide_eq_true (by omega),decide_eq_true (by omega),decide_eq_true (by omega)];rfl) ⟨by simp,λs hs=>(by cases hs),b2.mono (by omega)⟩
 rw [t1]
 have hl:t.1.length<=4:=by
  have:=t2.length_le
  rw [List.length_map,List.length_take]at this
  have e:xG.length=4:=rfl
  omega
 have hc:chk (λz:Zone=>z.Key) (E8 ⟨⟨#[108]⟩,W,H,t.1⟩) vU t.1=0:=GU _ t.1 vU (λz hz=>(t3 z hz).2.2) (KH.sublist (by rw [show xG.take xG.length=xG from rfl]at t2;exact t2)) (λz hz=>(t3 z hz).2.1)
 refine⟨⟨⟨#[108]⟩,W,H,t.1⟩,⟨t.2.1,t.2.2⟩,rfl,?_,λz hz=>(t3 z hz).1,hl,hW,hH,hc,t4.mono (by show b+2+10*((4:Nat):Int)<=b+50;omega)⟩
 exact IK _ (Nat.le_of_ble_eq_true rfl) (λz hz=>(t3 z hz).1) (by show t.1.length<=30;omega) (by kernel_rfl) (mW (by show 1<=W/\W<=20000;omega)) (mW (by show 1<=H/\H<=20000;omega)) hc
theorem Lt {W H:Int} (hW:1<=W/\W<=100) (hH:1<=H/\H<=100):dJ ⟨⟨#[119]⟩,W,H,[]⟩=some 0:=by
 unfold dJ
 simp only
 rw [xK _ (Nat.le_of_ble_eq_true rfl),Kj,show Ar W=false from mW (by omega),show Ar H=false from mW (by omega),show pq ⟨#[119]⟩=true by kernel_rfl,dz (by simp),dz (by simp)]
 rfl
theorem Kz (s:Stream) {b:Int} (hs:Ok s b) (hb:b<=700000):∃w s',gL s=some (w,s')/\dJ w=some 0/\WOk w/\w.Screens.length<=4/\(1<=w.W/\w.W<=100)/\(1<=w.H/\w.H<=100)/\Ok s' (b+50):=by
 unfold gL
 obtain ⟨W,s1,a1,a0,a2⟩:=Ay s [10,20,24,100] hs (by omega) (by simp) (by simp)
 obtain ⟨H,s2,b1,b0,b2⟩:=Ay s1 [6,10,30] a2 (by omega) (by simp) (by simp)
 have hW:1<=W/\W<=100:=by simp only [List.mem_cons,List.not_mem_nil,or_false]at a0;omega
 have hH:1<=H/\H<=100:=by simp only [List.mem_cons,List.not_mem_nil,or_false]at b0;omega
 simp only [a1,b1,ob_]
 have hkeys:∀k∈([(⟨#[115,97]⟩:ByteArray),(⟨#[115,98]⟩:ByteArray),(⟨#[115,99]⟩:ByteArray),(⟨#[115,100]⟩:ByteArray)]:List ByteArray),k.size<=1000:=by
  intro k hk
  simp only [List.mem_cons,List.not_mem_nil,or_false]at hk
  rcases hk with rfl|rfl|rfl|rfl <;> exact Nat.le_of_ble_eq_true rfl
 generalize hks:([(⟨#[115,97]⟩:ByteArray),(⟨#[115,98]⟩:ByteArray),(⟨#[115,99]⟩:ByteArray),(⟨#[115,100]⟩:ByteArray)]:List ByteArray)=ks at *
 have hkl:ks.length=4:=by rw [<- hks];rfl
 obtain ⟨t,t1,t2,t3,t4,t5⟩:=Pe (body:=λk x s=>gy (W,s1) (H,s2) k x s) (s:=(s2.L,s2.f_at,([]:List Screen))) (λj t=>t.2.2.length<=j/\(∀s∈t.2.2,s.Key.size<=1000)/\dJ ⟨⟨#[119]⟩,W,H,t.2.2⟩=some 0/\Ok ⟨t.1,t.2.1⟩ (b+2+10*j)) (xs:=ks) (by rw [hkl];omega) (λj x t hx hj ⟨i1,i2,i4,i3⟩=>by
  rw [hkl]at hj
  unfold gy
  simp only
  rw [bK (n:=W-1) (by omega),bK (n:=H-1) (by omega)]
  obtain ⟨X,q1,c1,c2,c3,c4⟩:=lF _ 0 (W-1) i3 (by omega) (by omega) (by omega) (by omega)
  obtain ⟨Y,q2,d1,d2,d3,d4⟩:=lF q1 0 (H-1) c4 (by omega) (by omega) (by omega) (by omega)
  obtain ⟨U,q3,e1,e2,e3,e4⟩:=lF q2 1 (W-X) d4 (by omega) (by omega) (by omega) (by omega)
  obtain ⟨V,q4,f1,f2,f3,f4⟩:=lF q3 1 (H-Y) e4 (by omega) (by omega) (by omega) (by omega)
  obtain ⟨g,q5,g1,g2⟩:=LY q4 4 f4 (by omega) (by decide) (by decide)
  simp only [c1,d1,ob_]
  rw [bK (n:=W-X) (by omega),bK (n:=H-Y) (by omega)]
  simp only [e1,f1,g1,ob_,Px _ (show t.2.2.length<=1000000 by omega)]
  rw [jO _ _ (by simp;omega)]
  simp only [ob_]
  have hnew:∀s∈t.2.2++[(⟨x,⟨X,Y,U,V⟩⟩:Screen)],s.Key.size<=1000:=λs hs=>by
   rcases List.mem_append.1 hs with hs|hs
   ·exact i2 s hs
   ·rw [List.mem_singleton]at hs;subst hs;exact hkeys x hx
  cases g with
  | true=>exact⟨_,rfl,by simp;omega,i2,i4,g2.mono (by omega)⟩
  | false =>
   obtain ⟨e,hwc,hwf,_⟩:=Hf (⟨⟨#[119]⟩,W,H,t.2.2++[(⟨x,⟨X,Y,U,V⟩⟩:Screen)]⟩:Wall) (Nat.le_of_ble_eq_true rfl) hnew (by simp;omega)
   simp only [Bool.not_false,cond_true,hwf,ob_]
   cases he:e==0 with
   | true=>exact⟨_,rfl,by simp;omega,hnew,by rw [eq_of_beq he]at hwc;exact hwc,g2.mono (by omega)⟩
   | false=>exact⟨_,rfl,by simp;omega,i2,i4,g2.mono (by omega)⟩) ⟨Nat.zero_le _,λs hs=>(by cases hs),Lt hW hH,b2.mono (by omega)⟩
 rw [hkl]at t2 t5
 rw [t1]
 exact⟨⟨⟨#[119]⟩,W,H,t.2.2⟩,_,rfl,t4,⟨Nat.le_of_ble_eq_true rfl,t3⟩,t2,hW,hH,t5.mono (by omega)⟩
end Go.Proofs.YtnkgapmhkhcanaaGreatDoor.Law

open Go Go.Eng
namespace Go.Proofs.YtnkgapmhkhcanaaGreatDoor.Law
set_option linter.unusedVariables false
set_option linter.unusedSimpArgs false
end Go.Proofs.YtnkgapmhkhcanaaGreatDoor.Law

open Go Go.Eng
namespace Go.Proofs.YtnkgapmhkhcanaaGreatDoor.Law
set_option linter.unusedVariables false
set_option linter.unusedSimpArgs false
theorem NZ {zs:List Zone} {i k:Nat} {x y:Int} (hi:sN zs i x y) (hk:sN zs k x y):i=k:=by
 obtain ⟨⟨a,a1,a2⟩,a3⟩:=hi
 obtain ⟨⟨b,b1,b2⟩,b3⟩:=hk
 by_cases h:i=k
 ·exact h
 ·exfalso
  rcases cov_tot a1 b1 h with g|g
  ·exact b3 i (List.getElem?_eq_some_iff.1 a1).1 ⟨a,a1,a2⟩ g
  ·exact a3 k (List.getElem?_eq_some_iff.1 b1).1 ⟨b,b1,b2⟩ g
def xS (zs:List Zone) (Rf:Nat->List Rect) (k:Nat) (z:Zone):Prop :=
 ∃bs:List Band,Rf k=jZ bs/\lX (-200000) bs/\(∀y,bg (-200000) (rowAt bs y)/\(∀r∈rowAt bs y,Okr r)/\∀x,mem x (rowAt bs y)↔sN zs k x y)/\∃above:List Rect,(∀r∈above,gM r)/\gM z.On/\∀x y,sN zs k x y↔iA [z.On] x y/\¬iA above x y
theorem xS.ind {zs:List Zone} {Rf:Nat->List Rect} {k:Nat} {z:Zone} (h:xS zs Rf k z) (x y:Int):sG (Rf k) x y=P01 (sN zs k x y):=by
 obtain ⟨bs,h1,h2,h3,above,h4,h5,h6⟩:=h
 have:=(xE (l:=[z.On]) (m:=above) (λr hr=>by rw [List.mem_singleton]at hr;subst hr;exact h5) h2 (λy=>⟨(h3 y).1,(h3 y).2.1,λx=>by rw [(h3 y).2.2,h6]⟩)).2.1 x y
 unfold sG
 rw [h1,this]
 exact yf (h6 x y).symm
theorem xS.inn {zs:List Zone} {Rf:Nat->List Rect} {k:Nat} {z:Zone} (hz:zs[k]? = some z) (h:xS zs Rf k z) {r:Rect} (hr:r∈Rf k):gM r/\z.On.X<=r.X/\r.X+r.W<=z.On.X+z.On.W/\z.On.Y<=r.Y/\r.Y+r.H<=z.On.Y+z.On.H:=by
 obtain ⟨bs,h1,h2,h3,above,h4,h5,h6⟩:=h
 rw [h1]at hr
 have hf:=(xE (l:=[z.On]) (m:=above) (λr hr=>by rw [List.mem_singleton]at hr;subst hr;exact h5) h2 (λy=>⟨(h3 y).1,(h3 y).2.1,λx=>by rw [(h3 y).2.2,h6]⟩)).1 r hr
 have key:∀x y,r.X<=x->x<r.X+r.W->r.Y<=y->y<r.Y+r.H->oO x y z.On=true:=λx y a b c d=>by
  obtain ⟨q,q1,q2,q3⟩:=Fg h2 hr c d
  have hm:mem x (rowAt bs y):=⟨q,q1,by omega,by omega⟩
  obtain ⟨⟨z',e1,e2⟩,_⟩:=((h3 y).2.2 x).1 hm
  rw [hz]at e1
  simp only [so_]at e1
  subst e1;exact e2
 obtain ⟨f1,f2,f3,f4⟩:=id hf
 have k1:=key r.X r.Y (Int.le_refl _) (by omega) (Int.le_refl _) (by omega)
 have k2:=key (r.X+r.W-1) (r.Y+r.H-1) (by omega) (by omega) (by omega) (by omega)
 simp only [oO,Bool.and_eq_true,decide_eq_true_eq]at k1 k2
 exact⟨hf,by omega,by omega,by omega,by omega⟩
theorem xS.edge {zs:List Zone} {Rf:Nat->List Rect} {k:Nat} {z:Zone} (h:xS zs Rf k z) {r:Rect} (hr:r∈Rf k) {y:Int} (h1:r.Y<=y) (h2:y<r.Y+r.H):r.X∈zs.flatMap (λz=>[z.On.X,z.On.X+z.On.W]):=by
 obtain ⟨bs,g1,g2,g3,above,g4,g5,g6⟩:=h
 rw [g1]at hr
 obtain ⟨q,q1,q2,q3⟩:=Fg g2 hr h1 h2
 obtain ⟨c1,c2,c3⟩:=g3 y
 have hq:=c1.lo q q1
 have m1:mem q.f_from (rowAt bs y):=⟨q,q1,Int.le_refl _,hq.2⟩
 have m2:=zB c1 q q1
 rw [c3]at m1 m2
 rw [q2]
 generalize q.f_from=x at *
 refine Classical.byContradiction (λhn=>m2 ?_)
 have same:∀i,Ni zs x y i↔Ni zs (x-1) y i:=λi=>by
  unfold Ni
  refine exists_congr (λz'=>and_congr_right (λhz' => ?_))
  have hm:=List.mem_of_getElem? hz'
  have n1:x≠z'.On.X:=λe=>hn (List.mem_flatMap.2 ⟨z',hm,by simp [e]⟩)
  have n2:x≠z'.On.X+z'.On.W:=λe=>hn (List.mem_flatMap.2 ⟨z',hm,by simp [e]⟩)
  simp only [oO,Bool.and_eq_true,decide_eq_true_eq]
  omega
 exact⟨(same k).1 m1.1,λi hi hh=>m1.2 i hi ((same i).2 hh)⟩
section
variable (zs:List Zone) (Rf:Nat->List Rect) (hR:∀(k:Nat) (z:Zone),zs[k]? = some z->xS zs Rf k z)
include hR
theorem Dq (x y:Int):∀(l:List Zone) (k:Nat),zs.drop k=l->sG ((dx Rf l k).map (·.On)) x y=P01 (∃j,k<=j/\j<zs.length/\sN zs j x y)
 | [],k,h=>by
  rw [yQ]
  ·rfl
  ·rintro ⟨j,h1,h2,_⟩
   have:=List.drop_eq_nil_iff.1 h
   omega
 | z::l,k,h=>by
  have hg:=rZ h
  have hlt:=ul h
  have e:((dx Rf (z::l) k).map (·.On))=Rf k++(dx Rf l (k+1)).map (·.On):=by
   rw [dx,List.map_append,List.map_map]
   congr 1
   exact (List.map_congr_left (λr _=>rfl)).trans (List.map_id _)
  have ih:=Dq x y l (k+1) (aN h)
  have h1:=(hR k z hg).ind x y
  unfold sG at *
  rw [e,Em,h1,ih]
  by_cases hs:sN zs k x y
  ·rw [Gu hs,yQ,Gu ⟨k,Nat.le_refl _,hlt,hs⟩]
   ·rfl
   ·rintro ⟨j,j1,j2,j3⟩
    have:=NZ hs j3
    omega
  ·rw [yQ hs,Int.zero_add]
   refine yf ⟨?_,?_⟩
   ·rintro ⟨j,j1,j2,j3⟩;exact⟨j,by omega,j2,j3⟩
   ·rintro ⟨j,j1,j2,j3⟩
    rcases Nat.eq_or_lt_of_le j1 with g|g
    ·subst g;exact absurd j3 hs
    ·exact⟨j,g,j2,j3⟩
omit hR in
theorem Eu:∀(l:List Zone) (k:Nat),zs.drop k=l->∀p∈dx Rf l k,∃(j:Nat) (z:Zone),zs[j]? = some z/\p.On∈Rf j
 | [],_,_,p,hp=>by cases hp
 | z::l,k,h,p,hp=>by
  rw [dx]at hp
  rcases List.mem_append.1 hp with hp|hp
  ·obtain ⟨r,hr,rfl⟩:=List.mem_map.1 hp
   exact⟨k,z,rZ h,hr⟩
  ·exact Eu l (k+1) (aN h) p hp
theorem KR (W H:Int) (hi:∀z∈zs,0<=z.On.X/\z.On.X+z.On.W<=W/\0<=z.On.Y/\z.On.Y+z.On.H<=H) :
  (∀x y,sG ((dx Rf zs 0).map (·.On)) x y<=1)/\(∀r∈(dx Rf zs 0).map (·.On),gM r/\0<=r.X/\r.X+r.W<=W/\0<=r.Y/\r.Y+r.H<=H)/\∀y,(((dx Rf zs 0).map (·.On)).filter (covers y)).length<=2*zs.length:=by
 have a1:∀x y,sG ((dx Rf zs 0).map (·.On)) x y<=1:=λx y=>by
  rw [Dq zs Rf hR x y zs 0 rfl]
  unfold P01
  split <;> omega
 have a2:∀r∈(dx Rf zs 0).map (·.On),∃(j:Nat) (z:Zone),zs[j]? = some z/\r∈Rf j:=λr hr=>by
  obtain ⟨p,hp,rfl⟩:=List.mem_map.1 hr
  exact Eu zs Rf zs 0 rfl p hp
 have a3:∀r∈(dx Rf zs 0).map (·.On),gM r/\0<=r.X/\r.X+r.W<=W/\0<=r.Y/\r.Y+r.H<=H:=λr hr=>by
  obtain ⟨j,z,b1,b2⟩:=a2 r hr
  obtain ⟨c1,c2,c3,c4,c5⟩:=(hR j z b1).inn b1 b2
  have:=hi z (List.mem_of_getElem? b1)
  exact⟨c1,by omega,by omega,by omega,by omega⟩
 refine⟨a1,a3,λy => ?_⟩
 have hn:=row_nodup y _ (λx=>a1 x y) (λr hr=>by
  obtain ⟨f1,f2,f3,f4⟩:=(a3 r hr).1
  exact f3.1)
 have:=BP _ (zs.flatMap (λz=>[z.On.X,z.On.X+z.On.W])) hn (λx hx=>by
  obtain ⟨r,hr,rfl⟩:=List.mem_map.1 hx
  obtain ⟨r1,r2⟩:=List.mem_filter.1 hr
  obtain ⟨j,z,b1,b2⟩:=a2 r r1
  simp only [covers,Bool.and_eq_true,decide_eq_true_eq]at r2
  exact (hR j z b1).edge b2 r2.1 r2.2)
 rw [List.length_map]at this
 have e:∀l:List Zone,(l.flatMap (λz=>[z.On.X,z.On.X+z.On.W])).length=2*l.length:=λl=>by
  induction l with
  | nil=>rfl
  | cons z l ih=>rw [List.flatMap_cons,List.length_append,ih,List.length_cons];simp;omega
 rw [e]at this
 exact this
end
end Go.Proofs.YtnkgapmhkhcanaaGreatDoor.Law

open Go Go.Eng
namespace Go.Proofs.YtnkgapmhkhcanaaGreatDoor.Law
set_option linter.unusedVariables false
set_option linter.unusedSimpArgs false
def Apart (a b:Rect):Prop:=∀x y,¬(oO x y a=true/\oO x y b=true)
theorem Gi (x:Screen) (hx:gM x.On):∀(l:List Screen) (k:Nat),(∀s∈l,gM s.On)->(forR (λk x_51 s=>dn x k x_51 s) l k ()=some (.go ())/\∀s∈l,Apart x.On s.On)\/forR (λk x_51 s=>dn x k x_51 s) l k ()=some (.ret 13)
 | [],k,_ => .inl ⟨rfl,λs hs=>by cases hs⟩
 | y::l,k,h=>by
  have hm:=Ml hx.bnd (h y (by simp)).bnd
  have hB:dn x k y ()=some (bif (oo x.On y.On).2 then .ret 13 else .go ()):=by
   unfold dn
   rw [hm,ob_]
   cases (oo x.On y.On).2 <;> rfl
  rw [forR,hB,ob_]
  cases hc:(oo x.On y.On).2 with
  | true=>exact .inr rfl
  | false =>
   rcases Gi x hx l (k+1) (λs hs=>h s (by simp [hs]))with⟨h1,h2⟩|h1
   ·refine .inl ⟨h1,λs hs => ?_⟩
    rcases List.mem_cons.1 hs with rfl|hs
    ·exact λa b=>Ls hc a b
    ·exact h2 s hs
   ·exact .inr h1
theorem GD (w:Wall) (hf:∀s∈w.Screens,gM s.On) (hl:w.Screens.length<=1000):∀(l:List Screen) (k:Nat),w.Screens.drop k=l->(forR (λk x s=>bH w k x s) l k ()=some (.go ())/\∀(j:Nat) (x:Screen),k<=j->w.Screens[j]? = some x->∀s∈w.Screens.take j,Apart x.On s.On)\/forR (λk x s=>bH w k x s) l k ()=some (.ret 13)
 | [],k,h => .inl ⟨rfl,λj x hj hx=>by
   have h1:=List.drop_eq_nil_iff.1 h
   have h2:=(List.getElem?_eq_some_iff.1 hx).1
   omega⟩
 | x::l,k,h=>by
  have hlt:=ul h
  have hg:=rZ h
  have hsub:FC w.Screens 0 (k:Int)=some (w.Screens.take k):=by
   unfold FC
   rw [if_pos ⟨by omega,by omega,by omega,by omega⟩];simp
  have hB:(bH w k x ()=some (.go ())/\∀s∈w.Screens.take k,Apart x.On s.On)\/bH w k x ()=some (.ret 13):=by
   unfold bH
   rw [hsub,ob_,dz (by rw [List.length_take];omega)]
   rcases Gi x (hf x (List.mem_of_getElem? hg)) (w.Screens.take k) 0 (λs hs=>hf s (List.mem_of_mem_take hs))with⟨h1,h2⟩|h1
   ·left;rw [h1];exact⟨rfl,h2⟩
   ·right;rw [h1];rfl
  rw [forR]
  rcases hB with⟨hB,hA⟩|hB
  ·rw [hB,ob_]
   rcases GD w hf hl l (k+1) (aN h)with⟨h1,h2⟩|h1
   ·refine .inl ⟨h1,λj y hj hy => ?_⟩
    rcases Nat.eq_or_lt_of_le hj with e|e
    ·subst e
     rw [hg]at hy
     simp only [so_]at hy
     subst hy;exact hA
    ·exact h2 j y e hy
   ·exact .inr h1
  ·rw [hB];exact .inr rfl
theorem FQ (w:Wall) (hf:∀s∈w.Screens,gM s.On) (hl:w.Screens.length<=1000) (h:BQ w=some 0):(w.Screens.map (·.On)).Pairwise Apart:=by
 unfold BQ at h
 rw [dz (by omega)]at h
 rcases GD w hf hl w.Screens 0 rfl with⟨_,h2⟩|h1
 ·rw [List.pairwise_map,List.pairwise_iff_getElem]
  intro i j hi hj hij
  have:=h2 j _ (Nat.zero_le _) (List.getElem?_eq_getElem hj) w.Screens[i] (by
   rw [List.mem_take_iff_getElem]
   exact⟨i,by omega,rfl⟩)
  exact λx y ⟨a,b⟩=>this x y ⟨b,a⟩
 ·rw [h1]at h;cases h
def oQ (s:Screen) (p:Piece):List View :=
 bif (oo s.On p.On).2 then [(⟨s.Key,p.Zone,⟨(oo s.On p.On).1.X-s.On.X,(oo s.On p.On).1.Y-s.On.Y,(oo s.On p.On).1.W,(oo s.On p.On).1.H⟩⟩:View)]else []
theorem Dr (s:Screen) (p:Piece):(oQ s p).length<=1:=by
 unfold oQ
 cases (oo s.On p.On).2 <;> simp
theorem DR {α β:Type} (f:α->List β) (c:Nat):∀l:List α,(∀x∈l,(f x).length<=c)->(l.flatMap f).length<=c*l.length
 | [],_=>Nat.zero_le _
 | x::l,h=>by
  have:=DR f c l (λy hy=>h y (by simp [hy]))
  have:=h x (by simp)
  rw [List.flatMap_cons,List.length_append,List.length_cons,Nat.mul_succ];omega
theorem DK (s:Screen) (hs:Bnd s.On):∀(l:List Piece) (k:Nat) (out:List View),(∀p∈l,Bnd p.On)->out.length+l.length<=1000000->forR (λk x t=>jF s k x t) l k out=some (.go (out++l.flatMap (oQ s)))
 | [],k,out,_,_=>by simp [forR]
 | p::l,k,out,h,hl=>by
  simp only [List.length_cons]at hl
  have hp:=h p (by simp)
  have hB:jF s k p out=some (.go (out++oQ s p)):=by
   unfold jF oQ
   have hm:=NM hs hp
   rw [Ml hs hp,ob_]
   unfold rG
   unfold Bnd at hm hs
   rw [bK (n:=(oo s.On p.On).1.X-s.On.X) (by omega),bK (n:=(oo s.On p.On).1.Y-s.On.Y) (by omega),ob_,jO _ _ (by simp;omega)]
   cases (oo s.On p.On).2 with
   | true=>rfl
   | false=>simp
  rw [forR,hB,ob_]
  simp only
  rw [DK s hs l (k+1) _ (λq hq=>h q (by simp [hq])) (by have:=Dr s p;rw [List.length_append];omega),List.flatMap_cons,List.append_assoc]
theorem GX (s:Screen):∀l:List Piece,(∀p∈l,p.On=⟨0,0,0,0⟩\/p.On.W>0)->(l.filter (λp=>decide (p.On.W>0))).flatMap (oQ s)=l.flatMap (oQ s)
 | [],_=>rfl
 | p::l,h=>by
  have ih:=GX s l (λq hq=>h q (by simp [hq]))
  rw [List.filter_cons]
  cases hc:decide (p.On.W>0)with
  | true=>simp only [if_true,List.flatMap_cons,ih]
  | false =>
   simp only [Bool.false_eq_true,if_false,List.flatMap_cons,ih]
   have e:oQ s p=[]:=by
    rcases h p (by simp)with k|k
    ·unfold oQ;rw [k,KA];rfl
    ·simp only [decide_eq_false_iff_not]at hc;exact absurd k hc
   rw [e,List.nil_append]
end Go.Proofs.YtnkgapmhkhcanaaGreatDoor.Law

open Go Go.Eng
namespace Go.Proofs.YtnkgapmhkhcanaaGreatDoor.Law
set_option linter.unusedVariables false
set_option linter.unusedSimpArgs false
theorem Gw {α β:Type} (f:α->β) {body:Nat->α->List β->Option (Ctl (List β) Unit)}:∀(l:List α) (k:Nat) (s:List β),(∀k r s,s.length<=1000000->body k r s=some (.go (s++[f r])))->s.length+l.length<=1000000->forR body l k s=some (.go (s++l.map f))
 | [],k,s,_,_=>by simp [forR]
 | r::l,k,s,h,hl=>by
  simp only [List.length_cons]at hl
  rw [forR,h k r s (by omega),ob_]
  simp only
  rw [Gw f l (k+1) _ h (by simp;omega)]
  simp
theorem Py {w:Wall}:∀(l:List Screen) (last:ByteArray),chk (λs:Screen=>s.Key) (Bb w) last l=0->∀s∈l,gM s.On/\uR s.On w.W w.H=true
 | [],_,_,s,hs=>by cases hs
 | x::l,last,h,s,hs=>by
  rw [chk]at h
  cases he:Bb w last x==0 with
  | false=>rw [he,cond_false]at h;rw [h]at he;cases he
  | true =>
   rw [he,cond_true]at h
   rcases List.mem_cons.1 hs with rfl|hs
   ·have he:=eq_of_beq he
    unfold Bb at he
    cases hk:pq s.Key with
    | false=>rw [hk]at he;cases he
    | true =>
     cases hb:uB s.On with
     | true=>rw [hk,hb]at he;cases he
     | false =>
      cases hi:uR s.On w.W w.H with
      | false=>rw [hk,hb,hi]at he;cases he
      | true=>exact⟨GN hb,rfl⟩
   ·exact Py l _ h s hs
theorem KW {w:Wall} (hw:dJ w=some 0) (hk:WOk w) (hl:w.Screens.length<=4) :
  (∀s∈w.Screens,gM s.On/\0<=s.On.X/\s.On.X+s.On.W<=w.W/\0<=s.On.Y/\s.On.Y+s.On.H<=w.H)/\∀x y,sG (w.Screens.map (·.On)) x y<=1:=by
 obtain ⟨e,w1,w2,w3⟩:=Hf w hk.1 hk.2 (by omega)
 rw [hw]at w1
 obtain ⟨_,_,hc,hp⟩:=w3 (Option.some.inj w1).symm
 have hin:=Py w.Screens vU hc
 refine⟨λs hs => ?_,λx y=>Fv x y _ (FQ w (λs hs=>(hin s hs).1) (by omega) hp)⟩
 obtain ⟨f,i⟩:=hin s hs
 have f':=id f
 unfold gM at f'
 unfold uR at i
 rw [bK (n:=s.On.X+s.On.W) (by omega),bK (n:=s.On.Y+s.On.H) (by omega)]at i
 simp only [Bool.and_eq_true,decide_eq_true_eq]at i
 exact⟨f,by omega,by omega,by omega,by omega⟩
end Go.Proofs.YtnkgapmhkhcanaaGreatDoor.Law

open Go Go.Eng
namespace Go.Proofs.YtnkgapmhkhcanaaGreatDoor.Law
set_option linter.unusedVariables false
set_option linter.unusedSimpArgs false
theorem Av {w:Wall}:∀(l:List Screen) (last:ByteArray),chk (λs:Screen=>s.Key) (Bb w) last l=0->(∀s∈l,lt last s.Key)/\l.Pairwise (λa b=>lt a.Key b.Key)
 | [],_,_=>⟨λz hz=>(by cases hz),List.Pairwise.nil⟩
 | x::l,last,h=>by
  rw [chk]at h
  cases he:Bb w last x==0 with
  | false=>rw [he,cond_false]at h;rw [h]at he;cases he
  | true =>
   rw [he,cond_true]at h
   obtain ⟨i1,i2⟩:=Av l _ h
   have he:=eq_of_beq he
   have hx:lt last x.Key:=by
    unfold Bb at he
    cases hk:pq x.Key with
    | false=>rw [hk]at he;cases he
    | true =>
     cases hb:uB x.On with
     | true=>rw [hk,hb]at he;cases he
     | false =>
      cases hi:uR x.On w.W w.H with
      | false=>rw [hk,hb,hi]at he;cases he
      | true =>
       cases hl:sLe x.Key last with
       | true=>rw [hk,hb,hi,hl]at he;cases he
       | false =>
        have:=De x.Key last
        rw [hl]at this
        simp only [Bool.false_eq_true,false_iff,Classical.not_not]at this
        exact this
   refine⟨λz hz => ?_,List.pairwise_cons.2 ⟨λz hz=>i1 z hz,i2⟩⟩
   rcases List.mem_cons.1 hz with rfl|hz
   ·exact hx
   ·exact lt_trans hx (i1 z hz)
theorem inRK {α:Type} {i:Int} {xs:List α} (h0:0<=i) (h1:i<xs.length):inR i xs=some ():=by unfold inR;rw [if_pos ⟨h0,by omega⟩]
theorem Gj {α β:Type} (f:α->List β) (c:Nat) {body:Nat->α->List β->Option (Ctl (List β) Unit)}:∀(l:List α) (k:Nat) (s:List β),(∀k r s,r∈l->s.length<=100000->body k r s=some (.go (s++f r)))->(∀r∈l,(f r).length<=c)->s.length+c*l.length<=100000->forR body l k s=some (.go (s++l.flatMap f))
 | [],k,s,_,_,_=>by simp [forR]
 | r::l,k,s,h,hc,hl=>by
  rw [List.length_cons,Nat.mul_succ]at hl
  have:=hc r (by simp)
  rw [forR,h k r s (by simp) (by omega),ob_]
  simp only
  rw [Gj f c l (k+1) _ (λk q s hq=>h k q s (by simp [hq])) (λq hq=>hc q (by simp [hq])) (by rw [List.length_append];omega)]
  simp
theorem CE (L:Layout) (w:Wall) (sc:Piece->Piece):∀(l:List Piece) (k:Nat) (out:List Piece),(∀p∈l,lh p.On L.W L.H w.W w.H=some (sc p).On/\(sc p).Zone=p.Zone)->out.length+l.length<=1000000->forR (λk x s=>iW L w k x s) l k out=some (.go (out++(l.map sc).filter (λp=>decide (p.On.W>0))))
 | [],k,out,_,_=>by simp [forR]
 | p::l,k,out,h,hl=>by
  simp only [List.length_cons]at hl
  obtain ⟨h1,h2⟩:=h p (by simp)
  have hB:iW L w k p out=some (.go (out++bif decide ((sc p).On.W>0)then [sc p]else [])):=by
   unfold iW
   rw [h1,ob_,<- h2]
   cases decide ((sc p).On.W>0)with
   | true=>rw [cond_true,jO _ _ (by simp;omega)];rfl
   | false=>simp
  rw [forR,hB,ob_]
  simp only
  rw [CE L w sc l (k+1) _ (λq hq=>h q (by simp [hq])) (by cases decide ((sc p).On.W>0) <;> simp <;> omega),List.map_cons,List.filter_cons]
  cases decide ((sc p).On.W>0) <;> simp
theorem viewsP (w:Wall) (L:Layout) (hwl:w.Screens.length<=5) (hll:L.Zones.length<=5) (w1:dJ w=some 0) (v1:eZ L=some 0) (hwW:1<=w.W/\w.W<=20000) (hwH:1<=w.H/\w.H<=20000) (hLW:1<=L.W/\L.W<=20000) (hLH:1<=L.H/\L.H<=20000)
  (hs:∀s∈w.Screens,gM s.On) (hsw:∀s∈w.Screens,0<=s.On.X/\s.On.X+s.On.W<=w.W/\0<=s.On.Y/\s.On.Y+s.On.H<=w.H) (hpw:BQ w=some 0) (hz:∀z∈L.Zones,gM z.On/\uR z.On L.W L.H=true/\pq z.Key=true) (hp:L.Zones.Pairwise (λa b=>lt a.Key b.Key)) (hkw:w.Screens.Pairwise (λa b=>lt a.Key b.Key)) :
  ∃(P:List Piece) (V:List View),mP w L=some (V,0)/\jM L=some (P,0)/\P.length<=390/\V.length<=1950:=by
 obtain ⟨Rf,r1,r2,r4⟩:=PL L (λz h=>⟨(hz z h).1,(hz z h).2.2⟩) hp hll
 have hIs:∀(k:Nat) (z:Zone),L.Zones[k]? = some z->xS L.Zones Rf k z:=λk z h=>(r1 k z h).2.2
 have hin:∀z∈L.Zones,0<=z.On.X/\z.On.X+z.On.W<=L.W/\0<=z.On.Y/\z.On.Y+z.On.H<=L.H:=λz h=>by
  obtain ⟨⟨f1,f2,f3,f4⟩,i,_⟩:=hz z h
  unfold uR at i
  rw [bK (n:=z.On.X+z.On.W) (by omega),bK (n:=z.On.Y+z.On.H) (by omega)]at i
  simp only [Bool.and_eq_true,decide_eq_true_eq]at i
  omega
 obtain ⟨p1,p2,p3⟩:=KR L.Zones Rf hIs L.W L.H hin
 generalize hP:dx Rf L.Zones 0=P at *
 obtain ⟨sc,hsc⟩:∃sc:Piece->Piece,∀p,sc p=⟨p.Zone,scR L.W L.H w.W w.H p.On⟩:=⟨_,λ_=>rfl⟩
 have hsOn:∀p,(sc p).On=scR L.W L.H w.W w.H p.On:=λp=>by rw [hsc]
 have hsZ:∀p,(sc p).Zone=p.Zone:=λp=>by rw [hsc]
 have hpin:∀p∈P,gM p.On/\0<=p.On.X/\p.On.X+p.On.W<=L.W/\0<=p.On.Y/\p.On.Y+p.On.H<=L.H:=λp h=>p2 _ (List.mem_map.2 ⟨p,h,rfl⟩)
 have hse:∀p∈P,lh p.On L.W L.H w.W w.H=some (sc p).On:=λp h=>by
  obtain ⟨⟨f1,f2,f3,f4⟩,i⟩:=hpin p h
  rw [hsOn]
  exact Nq p.On _ _ _ _ (by omega) (by omega) hLW hLH hwW hwH
 have hsi:∀p∈P,0<=(sc p).On.X/\0<=(sc p).On.W/\(sc p).On.X+(sc p).On.W<=w.W/\0<=(sc p).On.Y/\0<=(sc p).On.H/\(sc p).On.Y+(sc p).On.H<=w.H/\((sc p).On=⟨0,0,0,0⟩\/(0<(sc p).On.W/\0<(sc p).On.H)):=λp h=>by
  obtain ⟨⟨f1,f2,f3,f4⟩,i⟩:=hpin p h
  rw [hsOn]
  exact scR_in (by omega) (by omega) (by omega) (by omega) (by omega) (by omega)
 have hsb:∀p∈P,Bnd (sc p).On:=λp h=>by
  have:=hsi p h
  unfold Bnd;omega
 have hsb':∀q∈P.map sc,Bnd q.On:=λq h=>by
  obtain ⟨p,h1,rfl⟩:=List.mem_map.1 h
  exact hsb p h1
 have hsB:∀s∈w.Screens,Bnd s.On:=λs h=>(hs s h).bnd
 have hscal:nz w L=some ((P.map sc).filter (λp=>decide (p.On.W>0)),0):=by
  unfold nz
  rw [w1,ob_,v1]
  simp only [bne_self_eq_false,cond_false,ob_,r2]
  rw [dz (by omega),CE L w sc P 0 [] (λp h=>⟨hse p h,hsZ p⟩) (by simp;omega)];rfl
 have hql:((P.map sc).filter (λp=>decide (p.On.W>0))).length<=390:=Nat.le_trans (List.length_filter_le _ _) (by rw [List.length_map];exact r4)
 have hfl:∀s∈w.Screens,((P.map sc).flatMap (oQ s)).length<=390:=λs _=>by
  have:=DR (oQ s) 1 (P.map sc) (λp _=>Dr s p)
  rw [List.length_map]at this;omega
 have hV1:mP w L=some (w.Screens.flatMap (λs=>(P.map sc).flatMap (oQ s)),0):=by
  unfold mP
  rw [hscal,ob_]
  simp only [bne_self_eq_false,cond_false]
  rw [dz (by omega),Gj (λs=>(P.map sc).flatMap (oQ s)) 390 w.Screens 0 [] (λk s out hm ho=>by
   unfold nQ
   simp only
   rw [dz (by omega),DK s (hsB s hm) _ 0 out (λq hq=>hsb' q (List.mem_filter.1 hq).1) (by omega),GX s (P.map sc) (λq hq=>by
    obtain ⟨p,h1,rfl⟩:=List.mem_map.1 hq
    rcases (hsi p h1).2.2.2.2.2.2 with g|g
    ·exact .inl g
    ·exact .inr g.1)];rfl) hfl (by simp;omega)];rfl
 have hVl:(w.Screens.flatMap (λs=>(P.map sc).flatMap (oQ s))).length<=390*w.Screens.length:=DR _ 390 _ hfl
 exact⟨P,_,hV1,r2,r4,by omega⟩
end Go.Proofs.YtnkgapmhkhcanaaGreatDoor.Law

open Go Go.Eng
namespace Go.Proofs.YtnkgapmhkhcanaaGreatDoor.Law
set_option linter.unusedVariables false
set_option linter.unusedSimpArgs false
theorem Gl {α:Type} {z:α} {body:Nat->Nat->List α->Option (Ctl (List α) Unit)} (hb:∀k x s,body k x s=(inR (k:Int) s).bind λ_=>(s[(0+((k:Int)).toNat)]?).bind λ_=>some (.go (s.set (0+((k:Int)).toNat) z))) :
  ∀(l:List Nat) (k:Nat) (s:List α),k+l.length<=s.length->∃t,forR body l k s=some (.go t)/\t.length=s.length
 | [],k,s,_=>⟨s,rfl,rfl⟩
 | x::l,k,s,h=>by
  simp only [List.length_cons]at h
  have hk:k<s.length:=by omega
  obtain ⟨t,t1,t2⟩:=Gl hb l (k+1) (s.set k z) (by rw [List.length_set];omega)
  refine⟨t,?_,by rw [t2,List.length_set]⟩
  rw [forR,hb,inRK (by omega) (by omega),ob_,Int.toNat_natCast,Nat.zero_add,List.getElem?_eq_getElem hk,ob_,ob_]
  exact t1
theorem EL {α:Type} {z:α} {body:Nat->Nat->List α->Option (Ctl (List α) Unit)} (hb:∀k x s,body k x s=(inR (k:Int) s).bind λ_=>(s[(0+((k:Int)).toNat)]?).bind λ_=>some (.go (s.set (0+((k:Int)).toNat) z))) (l:List α) (h:l.length<=1000000) :
  ∃t,((forL (List.range ((l.length:Int)).toNat) l body).bind λo=>thenC o (λs=>some s) (λ_=>none))=some t/\t.length=l.length:=by
 obtain ⟨t,t1,t2⟩:=Gl hb (List.range ((l.length:Int)).toNat) 0 l (by rw [List.length_range];omega)
 refine⟨t,?_,t2⟩
 rw [dz (by rw [List.length_range];omega),t1];rfl
theorem OT (l:List Rect) (h:l.length<=1000000):∃t,fq l=some t/\t.length=l.length:=EL (λ_ _ _=>rfl) l h
theorem spoilP (l:List Piece) (h:l.length<=1000000):∃t,iB l=some t/\t.length=l.length:=EL (λ_ _ _=>rfl) l h
theorem spoilV (l:List View) (h:l.length<=1000000):∃t,iT l=some t/\t.length=l.length:=EL (λ_ _ _=>rfl) l h
theorem Fa (l2:List Screen):∀(xs:List Screen) (k:Nat),l2.drop k=xs->forR (λk x s=>bQ l2 k x s) xs k ()=some (.go ())
 | [],_,_=>rfl
 | x::xs,k,h=>by
  have hx:l2[k]? = some x:=by rw [<- List.head?_drop,h];rfl
  have hB:bQ l2 k x ()=some (.go ()):=by
   unfold bQ
   rw [tT,hx,ob_]
   simp
  rw [forR,hB,ob_]
  exact Fa l2 xs (k+1) (by rw [<- List.tail_drop,h];rfl)
theorem equalC (l:List Screen) (h:l.length<=1000000):dG l l=some true:=by
 unfold dG
 rw [bne_self_eq_false,cond_false,dz (by omega),Fa l l 0 rfl];rfl
theorem EJ (l2:List Zone):∀(xs:List Zone) (k:Nat),l2.drop k=xs->forR (λk x s=>cK l2 k x s) xs k ()=some (.go ())
 | [],_,_=>rfl
 | x::xs,k,h=>by
  have hx:l2[k]? = some x:=by rw [<- List.head?_drop,h];rfl
  have hB:cK l2 k x ()=some (.go ()):=by
   unfold cK
   rw [tT,hx,ob_]
   simp
  rw [forR,hB,ob_]
  exact EJ l2 xs (k+1) (by rw [<- List.tail_drop,h];rfl)
theorem sameLayout (L:Layout) (h:L.Zones.length<=1000000):l7 L L=some true:=by
 have e:dR L.Zones L.Zones=some true:=by
  unfold dR
  rw [bne_self_eq_false,cond_false,dz (by omega),EJ L.Zones L.Zones 0 rfl];rfl
 unfold l7
 rw [show sEq L.Key L.Key=true by simp [sEq],e,beq_self_eq_true,beq_self_eq_true];rfl
theorem D6 (R:List Rect) (h:R.length<=2000):(gK R).bind (λr=>(GJ R r.1).bind λ_=>some (r.1,r.2))=some (R,0):=by
 have e:gK R=some (R,0):=Lj R h
 rw [e,ob_,KL (λh=>h)];rfl
theorem screensStay (l:List Int):mM l=some true:=by
 have h0:Ok (⟨l,0⟩:Stream) 0:=⟨Int.le_refl _,Int.le_refl _⟩
 obtain ⟨x1,t1,p1,p2,_,p3⟩:=EX _ h0 (by decide)
 obtain ⟨x2,t2,q1,q2,_,q3⟩:=EX t1 p3 (by decide)
 obtain ⟨w,s1,a1,a2,a3,a4,a5,a6,a7⟩:=Kz t2 q3 (by decide)
 obtain ⟨L,s2,b1,b2,b3,b4,b5,b6,b7,b8⟩:=Ho s1 a7 (by decide)
 obtain ⟨wf,_⟩:=KW a2 a3 a4
 obtain ⟨e,w1,w2,w3⟩:=Hf w a3.1 a3.2 (by omega)
 rw [a2]at w1
 obtain ⟨_,_,hc,hpw⟩:=w3 (Option.some.inj w1).symm
 obtain ⟨hz,hp⟩:=Ka L.Zones vU b7
 obtain ⟨P,V,v1,v3,v4,v5⟩:=viewsP w L (by omega) (by omega) a2 b2 (by omega) (by omega) (by omega) (by omega) (λs hs=>(wf s hs).1) (λs hs=>(wf s hs).2) hpw (λz h=>⟨(hz z h).1,(hz z h).2.1,(hz z h).2.2.1⟩) hp (Av w.Screens vU hc).2
 have hS:qp L=some (P,0):=by
  unfold qp
  rw [b2,ob_,bne_self_eq_false,cond_false,v3];rfl
 have hx:∀q ∈ [x1,x2],gM q:=λq hq=>by
  simp only [List.mem_cons,List.not_mem_nil,or_false]at hq
  rcases hq with rfl|rfl
  ·exact p2
  ·exact q2
 have hrf:dX [x1,x2]=some 0:=E9 _ (by simp) (λq hq=>Ns (hx q hq))
 have hr0:dX []=some 0:=E9 _ (by simp) (λq hq=>by cases hq)
 obtain ⟨R,r1,r2,_⟩:=zF [x1,x2] [] 2 0 (by decide) (by decide) hx (λq hq=>by cases hq) (λy=>HZ _ y) (by simp) (by simp)
 have hRl:R.length<=10:=Nat.le_trans r2 (by simp)
 have hR:lq [x1,x2]=some (R,0):=by
  unfold lq
  rw [hrf,ob_,bne_self_eq_false,cond_false,r1,ob_]
  exact D6 R (by omega)
 have hW:kR [x1,x2] []=some (R,0):=by
  unfold kR
  have hl:forL (List.range (2:Int).toNat) () (λk x s=>fG [x1,x2] [] k x s)=some (.go ()):=by
   rw [dz (by rw [List.length_range];omega)]
   have h1:fG [x1,x2] [] 0 0 ()=some (.go ()):=by
    unfold fG
    rw [show idx ([[x1,x2],[]]:List (List Rect)) ((0:Nat):Int)=some [x1,x2] from rfl,ob_,hrf];rfl
   have h2:fG [x1,x2] [] 1 1 ()=some (.go ()):=by
    unfold fG
    rw [show idx ([[x1,x2],[]]:List (List Rect)) ((1:Nat):Int)=some [] from rfl,ob_,hr0];rfl
   rw [show List.range (2:Int).toNat=[0,1] from rfl,forR,h1,ob_]
   simp only []
   rw [forR,h2,ob_];rfl
  rw [hl,ob_,J9,r1,ob_]
  exact D6 R (by omega)
 have hFull:gM ⟨0,0,w.W,w.H⟩:=by unfold gM;simp only [];omega
 have hSf:∀q∈w.Screens.map (·.On),gM q:=λq hq=>by
  obtain ⟨s,hs,rfl⟩:=List.mem_map.1 hq
  exact (wf s hs).1
 obtain ⟨D,d1,d2,d3⟩:=zF [⟨0,0,w.W,w.H⟩] (w.Screens.map (·.On)) 1 4 (by decide) (by decide) (λq hq=>by rw [List.mem_singleton.1 hq];exact hFull) hSf (λy=>HZ _ y) (by simpa using a4) (by simp)
 have hDl:D.length<=55:=by
  have:(2*([(⟨0,0,w.W,w.H⟩:Rect)].length+(w.Screens.map (·.On)).length)+1)*(1*(4+1))<=11*5:=Nat.mul_le_mul (by simp;omega) (by omega)
  omega
 have hlit:sD w=some (w.Screens.map (·.On)):=by
  unfold sD
  rw [dz (by omega),Gw (λs:Screen=>s.On) w.Screens 0 [] (λk r s hs=>by unfold qc;rw [jO _ _ (by simp;omega)];rfl) (by simp;omega)];rfl
 have hD:nD w=some (D,0):=by
  unfold nD
  rw [a2,ob_,bne_self_eq_false,cond_false,hlit,ob_,d1,ob_]
  exact D6 D (by omega)
 obtain ⟨u1,e1,f1⟩:=OT R (by omega)
 obtain ⟨u2,e2,f2⟩:=OT D (by omega)
 obtain ⟨u3,e3,f3⟩:=spoilP P (by omega)
 obtain ⟨u4,e4,f4⟩:=spoilV V (by omega)
 have g1:gQ u1 R=some ():=by unfold gQ;rw [if_pos f1]
 have g2:gQ u2 D=some ():=by unfold gQ;rw [if_pos f2]
 have g3:gQ u3 P=some ():=by unfold gQ;rw [if_pos f3]
 have g4:gQ u4 V=some ():=by unfold gQ;rw [if_pos f4]
 unfold mM
 simp only [p1,q1,a1,b1,hR,hW,hD,hS,v1,e1,e2,e3,e4,g1,g2,g3,g4,eqRects [x1,x2] (by simp),equalC w.Screens (by omega),sameLayout L (by omega),Po,ob_,cond_true]
end Go.Proofs.YtnkgapmhkhcanaaGreatDoor.Law

