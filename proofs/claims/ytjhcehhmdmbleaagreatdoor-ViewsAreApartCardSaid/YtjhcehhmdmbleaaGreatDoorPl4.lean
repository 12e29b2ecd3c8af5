/-
  THE PLAIN LAW (part 4).
-/
import Derived.Test.YtjhcehhmdmbleaaGreatDoorPl3
open Go Go.Eng
namespace Go.Proofs.YtjhcehhmdmbleaaGreatDoor.Law
set_option linter.unusedVariables false
set_option linter.unusedSimpArgs false
theorem Gx (l:Layout) (hk:l.Key.size≤1000) (hs:∀ z∈l.Zones,z.Key.size≤1000) (hl:l.Zones.length≤30) (k1:nT l.Key=true) (hW:zm l.W=false) (hH:zm l.H=false) (hc:chk (fun z=>z.Key) (D9 l) uA l.Zones=0):eB l=some 0:=by
 unfold eB
 rw [wD l.Key (by omega),JW,k1,hW,hH]
 have hd:decide ((l.Zones.length:Int) > 30)=false:=by simp; omega
 simp only [Bool.not_true,cond_false,cond_true,Bool.or_self,bne_self_eq_false,hd,Option.bind_some]
 have h1:=C8 (key:=fun z:Zone=>z.Key) (stp:=D9 l) (body:=fun k x s=>gp l k x s) l.Zones l.Zones 0 rfl (fun k x hx=>by
  have hxm:=List.mem_of_getElem? hx
  unfold gp D9
  rw [wD _ (by have:=hs x hxm; omega),qj,AQ,uJ]
  simp only [Option.bind_some]
  cases hkey:nT x.Key with
  | false=>rfl
  | true =>
   have hne:x.Key.size≠0:=Kb hkey
   rw [EU (key:=fun z:Zone=>z.Key) hx (by omega) hne]
   cases tN x.On with
   | true=>rfl
   | false =>
    cases tH x.On l.W l.H with
    | false=>rfl
    | true =>
     cases oH x.Order 0 1000 with
     | true=>rfl
     | false=>cases sLe x.Key (uZ (fun z:Zone=>z.Key) l.Zones k) <;> rfl)
 have h0:uZ (fun z:Zone=>z.Key) l.Zones 0=uA:=rfl
 rw [h0,hc]at h1
 rw [bW (by omega),h1]
 rfl
theorem EP (l:Layout):∀ (zs:List Zone) (last:ByteArray),(∀ z∈zs,nT z.Key=true∧tN z.On=false∧tH z.On l.W l.H=true∧oH z.Order 0 1000=false)→(zs.map (·.Key)).Pairwise lt→(∀ z∈zs,sLe z.Key last=false)→chk (fun z:Zone=>z.Key) (D9 l) last zs=0
 | [],_,_,_,_=>rfl
 | z::zs,last,h,hp,hl=>by
  obtain ⟨h1,h2,h3,h4⟩:=h z (by simp)
  rw [List.map_cons,List.pairwise_cons]at hp
  have h0:D9 l last z=0:=by
   unfold D9
   rw [h1,h2,h3,h4,hl z (by simp)]; rfl
  rw [chk,h0]
  show (bif (0:Int) == 0 then _ else _)=_
  rw [beq_self_eq_true,cond_true]
  refine EP l zs z.Key (fun x hx=>h x (by simp [hx])) hp.2 (fun x hx => ?_)
  rw [Bool.eq_false_iff]
  intro he
  exact (BV _ _).1 he (hp.1 x.Key (List.mem_map.2 ⟨x,hx,rfl⟩))
def wh:List ByteArray := [(⟨#[122,97]⟩:ByteArray),(⟨#[122,98]⟩:ByteArray),(⟨#[122,99]⟩:ByteArray),(⟨#[122,100]⟩:ByteArray)]
theorem JH:wh.Pairwise lt:=by
 unfold wh
 simp only [List.pairwise_cons,List.mem_cons,List.not_mem_nil,or_false,forall_eq_or_imp,forall_eq]
 refine⟨⟨zK (by kernel_rfl),zK (by kernel_rfl),zK (by kernel_rfl)⟩,⟨zK (by kernel_rfl),zK (by kernel_rfl)⟩,zK (by kernel_rfl),fun a h=>(by cases h),List.Pairwise.nil⟩
theorem Li:∀ k∈wh,nT k=true∧k.size≤1000∧sLe k uA=false:=by
 intro k hk
 simp only [wh,List.mem_cons,List.not_mem_nil,or_false]at hk
 rcases hk with rfl | rfl | rfl | rfl <;> exact⟨by kernel_rfl,Nat.le_of_ble_eq_true rfl,by kernel_rfl⟩
theorem GV (s:Stream) {b:Int} (hs:Ok s b) (hb:b≤700000):∃ w s',gy s=some (w,s')∧eB w=some 0∧(∀ z∈w.Zones,z.Key.size≤1000)∧w.Zones.length≤4∧(1≤w.W∧w.W≤100)∧(1≤w.H∧w.H≤100)∧chk (fun z=>z.Key) (D9 w) uA w.Zones=0∧Ok s' (b + 50):=by
 unfold gy
 obtain ⟨W,s1,a1,a0,a2⟩:=zg s [5,8,10,16] hs (by omega) (by simp) (by simp)
 obtain ⟨H,s2,b1,b0,b2⟩:=zg s1 [4,6,9] a2 (by omega) (by simp) (by simp)
 have hW:1≤W∧W≤100:=by simp only [List.mem_cons,List.not_mem_nil,or_false]at a0; omega
 have hH:1≤H∧H≤100:=by simp only [List.mem_cons,List.not_mem_nil,or_false]at b0; omega
 simp only [a1,b1,Option.bind_some]
 rw [show ([(⟨#[122,97]⟩:ByteArray),(⟨#[122,98]⟩:ByteArray),(⟨#[122,99]⟩:ByteArray),(⟨#[122,100]⟩:ByteArray)]:List ByteArray)=wh from rfl]
 obtain ⟨t,t1,t2,t3,t4⟩:=forL_at (body:=fun k x s=>fw (W,s1) (H,s2) k x s) (s:=(([]:List Zone),s2.L,s2.f_at)) (fun j t=>(t.1.map (fun z:Zone=>z.Key)).Sublist (wh.take j)∧(∀ z∈t.1,z.Key.size≤1000∧sLe z.Key uA=false∧nT z.Key=true∧tN z.On=false∧tH z.On W H=true∧oH z.Order 0 1000=false)∧Ok ⟨t.2.1,t.2.2⟩ (b + 2 + 10 * j)) (xs:=wh) (by decide) (fun j x t hx ⟨i1,i2,i3⟩=>by
  have hj:j < 4:=by
   rcases Nat.lt_or_ge j 4 with g | g
   ·exact g
   ·rw [List.getElem?_eq_none (by exact g)]at hx; cases hx
  obtain ⟨n1,n2,n3⟩:=Li x (List.mem_of_getElem? hx)
  obtain ⟨g1',g2'⟩:=NB (f:=fun z:Zone=>z.Key) hx i1
  have hlen:t.1.length≤4:=by
   have:=i1.length_le
   rw [List.length_map,List.length_take]at this
   omega
  unfold fw
  simp only
  obtain ⟨g,q0,g1,g2⟩:=J7 _ 5 i3 (by omega) (by decide) (by decide)
  simp only [g1,Option.bind_some]
  cases g with
  | true=>exact⟨_,rfl,g1',i2,g2.mono (by omega)⟩
  | false =>
   rw [cond_false,bz (n:=W - 1) (by omega),bz (n:=H - 1) (by omega)]
   obtain ⟨X,q1,c1,c2,c3,c4⟩:=pG q0 0 (W - 1) g2 (by omega) (by omega) (by omega) (by omega)
   obtain ⟨Y,q2,d1,d2,d3,d4⟩:=pG q1 0 (H - 1) c4 (by omega) (by omega) (by omega) (by omega)
   obtain ⟨O,q3,o1,o2,o3⟩:=zg q2 [0,0,1,2] d4 (by omega) (by simp) (by simp)
   obtain ⟨U,q4,e1,e2,e3,e4⟩:=pG q3 1 (W - X) o3 (by omega) (by omega) (by omega) (by omega)
   obtain ⟨V,q5,f1,f2,f3,f4⟩:=pG q4 1 (H - Y) e4 (by omega) (by omega) (by omega) (by omega)
   simp only [c1,d1,o1,Option.bind_some]
   rw [bz (n:=W - X) (by omega),bz (n:=H - Y) (by omega)]
   simp only [e1,f1,Option.bind_some]
   rw [iE _ _ (by simp; omega)]
   refine⟨_,rfl,g2' _ rfl,fun z hz => ?_,f4.mono (by omega)⟩
   rcases List.mem_append.1 hz with hz | hz
   ·exact i2 z hz
   ·rw [List.mem_singleton]at hz
    subst hz
    simp only [List.mem_cons,List.not_mem_nil,or_false]at o2
    refine⟨n2,n3,n1,?_,?_,jq (by show 0≤O∧O≤1000; omega)⟩
    ·unfold tN
     simp only
     rw [bz (n:=100000 - X) (by omega),bz (n:=100000 - Y) (by omega),jq (by omega),jq (by omega),jq (by omega),jq (by omega)]; rfl
    ·unfold tH
     simp only
     rw [bz (n:=X + U) (by omega),bz (n:=Y + V) (by omega),decide_eq_true (by omega),decide_eq_true (by omega),decide_eq_true (by omega),decide_eq_true (by omega)]; rfl) ⟨by simp,fun s hs=>(by cases hs),b2.mono (by omega)⟩
 rw [t1]
 have hl:t.1.length≤4:=by
  have:=t2.length_le
  rw [List.length_map,List.length_take]at this
  have e:wh.length=4:=rfl
  omega
 have hc:chk (fun z:Zone=>z.Key) (D9 ⟨⟨#[108]⟩,W,H,t.1⟩) uA t.1=0:=EP _ t.1 uA (fun z hz=>(t3 z hz).2.2) (JH.sublist (by rw [show wh.take wh.length=wh from rfl]at t2; exact t2)) (fun z hz=>(t3 z hz).2.1)
 refine⟨⟨⟨#[108]⟩,W,H,t.1⟩,⟨t.2.1,t.2.2⟩,rfl,?_,fun z hz=>(t3 z hz).1,hl,hW,hH,hc,t4.mono (by show b + 2 + 10 * ((4:Nat):Int)≤b + 50; omega)⟩
 exact Gx _ (Nat.le_of_ble_eq_true rfl) (fun z hz=>(t3 z hz).1) (by show t.1.length≤30; omega) (by kernel_rfl) (jq (by show 1≤W∧W≤20000; omega)) (jq (by show 1≤H∧H≤20000; omega)) hc
theorem JR {W H:Int} (hW:1≤W∧W≤100) (hH:1≤H∧H≤100):dI ⟨⟨#[119]⟩,W,H,[]⟩=some 0:=by
 unfold dI
 simp only
 rw [wD _ (Nat.le_of_ble_eq_true rfl),JW,show zm W=false from jq (by omega),show zm H=false from jq (by omega),show nT ⟨#[119]⟩=true by kernel_rfl,bW (by simp),bW (by simp)]
 rfl
theorem Jb (s:Stream) {b:Int} (hs:Ok s b) (hb:b≤700000):∃ w s',iw s=some (w,s')∧dI w=some 0∧WOk w∧w.Screens.length≤4∧(1≤w.W∧w.W≤100)∧(1≤w.H∧w.H≤100)∧Ok s' (b + 50):=by
 unfold iw
 obtain ⟨W,s1,a1,a0,a2⟩:=zg s [10,20,24,100] hs (by omega) (by simp) (by simp)
 obtain ⟨H,s2,b1,b0,b2⟩:=zg s1 [6,10,30] a2 (by omega) (by simp) (by simp)
 have hW:1≤W∧W≤100:=by simp only [List.mem_cons,List.not_mem_nil,or_false]at a0; omega
 have hH:1≤H∧H≤100:=by simp only [List.mem_cons,List.not_mem_nil,or_false]at b0; omega
 simp only [a1,b1,Option.bind_some]
 have hkeys:∀ k∈([(⟨#[115,97]⟩:ByteArray),(⟨#[115,98]⟩:ByteArray),(⟨#[115,99]⟩:ByteArray),(⟨#[115,100]⟩:ByteArray)]:List ByteArray),k.size≤1000:=by
  intro k hk
  simp only [List.mem_cons,List.not_mem_nil,or_false]at hk
  rcases hk with rfl | rfl | rfl | rfl <;> exact Nat.le_of_ble_eq_true rfl
 generalize hks:([(⟨#[115,97]⟩:ByteArray),(⟨#[115,98]⟩:ByteArray),(⟨#[115,99]⟩:ByteArray),(⟨#[115,100]⟩:ByteArray)]:List ByteArray)=ks at *
 have hkl:ks.length=4:=by rw [← hks]; rfl
 obtain ⟨t,t1,t2,t3,t4,t5⟩:=NM (body:=fun k x s=>fO (W,s1) (H,s2) k x s) (s:=(s2.L,s2.f_at,([]:List Screen))) (fun j t=>t.2.2.length≤j∧(∀ s∈t.2.2,s.Key.size≤1000)∧dI ⟨⟨#[119]⟩,W,H,t.2.2⟩=some 0∧Ok ⟨t.1,t.2.1⟩ (b + 2 + 10 * j)) (xs:=ks) (by rw [hkl]; omega) (fun j x t hx hj ⟨i1,i2,i4,i3⟩=>by
  rw [hkl]at hj
  unfold fO
  simp only
  rw [bz (n:=W - 1) (by omega),bz (n:=H - 1) (by omega)]
  obtain ⟨X,q1,c1,c2,c3,c4⟩:=pG _ 0 (W - 1) i3 (by omega) (by omega) (by omega) (by omega)
  obtain ⟨Y,q2,d1,d2,d3,d4⟩:=pG q1 0 (H - 1) c4 (by omega) (by omega) (by omega) (by omega)
  obtain ⟨U,q3,e1,e2,e3,e4⟩:=pG q2 1 (W - X) d4 (by omega) (by omega) (by omega) (by omega)
  obtain ⟨V,q4,f1,f2,f3,f4⟩:=pG q3 1 (H - Y) e4 (by omega) (by omega) (by omega) (by omega)
  obtain ⟨g,q5,g1,g2⟩:=J7 q4 4 f4 (by omega) (by decide) (by decide)
  simp only [c1,d1,Option.bind_some]
  rw [bz (n:=W - X) (by omega),bz (n:=H - Y) (by omega)]
  simp only [e1,f1,g1,Option.bind_some,MB _ (show t.2.2.length≤1000000 by omega)]
  rw [iE _ _ (by simp; omega)]
  simp only [Option.bind_some]
  have hnew:∀ s∈t.2.2 ++ [(⟨x,⟨X,Y,U,V⟩⟩:Screen)],s.Key.size≤1000:=fun s hs=>by
   rcases List.mem_append.1 hs with hs | hs
   ·exact i2 s hs
   ·rw [List.mem_singleton]at hs; subst hs; exact hkeys x hx
  cases g with
  | true=>exact⟨_,rfl,by simp; omega,i2,i4,g2.mono (by omega)⟩
  | false =>
   obtain ⟨e,hwc,hwf,_⟩:=G5 (⟨⟨#[119]⟩,W,H,t.2.2 ++ [(⟨x,⟨X,Y,U,V⟩⟩:Screen)]⟩:Wall) (Nat.le_of_ble_eq_true rfl) hnew (by simp; omega)
   simp only [Bool.not_false,cond_true,hwf,Option.bind_some]
   cases he:e == 0 with
   | true=>exact⟨_,rfl,by simp; omega,hnew,by rw [eq_of_beq he]at hwc; exact hwc,g2.mono (by omega)⟩
   | false=>exact⟨_,rfl,by simp; omega,i2,i4,g2.mono (by omega)⟩) ⟨Nat.zero_le _,fun s hs=>(by cases hs),JR hW hH,b2.mono (by omega)⟩
 rw [hkl]at t2 t5
 rw [t1]
 exact⟨⟨⟨#[119]⟩,W,H,t.2.2⟩,_,rfl,t4,⟨Nat.le_of_ble_eq_true rfl,t3⟩,t2,hW,hH,t5.mono (by omega)⟩
end Go.Proofs.YtjhcehhmdmbleaaGreatDoor.Law

open Go Go.Eng
namespace Go.Proofs.YtjhcehhmdmbleaaGreatDoor.Law
set_option linter.unusedVariables false
set_option linter.unusedSimpArgs false
theorem Oe (l:List Rect) (y:Int) (h:∀ r∈l,fq r) (hl:(pU l y).length≤12) (hL:l.length≤100000):∃ R,dE l y=some R∧aU (-200000) R∧(∀ x,mem x R↔eF l x y)∧R.length≤12 ∧ ∀ r∈R,Okr r:=by
 have hb:=Gb y h
 obtain ⟨s,h1,h2,h3⟩:=D8 (pU l y) (by omega) hb
 obtain ⟨R,k1,k2,k3,k4,k5⟩:=qB s 0 [] (fun r hr=>hb r (h2.mem_iff.1 hr)) (fun o ho=>by cases ho) h3 (by rw [h2.length_eq]; simp; omega) trivial (fun o ho=>by cases ho)
 have hsm:jE s (pU l y)=some ():=by unfold jE; rw [if_pos h2.length_eq]
 refine⟨R,?_,k2,fun x => ?_,by rw [h2.length_eq]at k4; simp at k4; omega,k5⟩
 ·unfold dE
  rw [bW (by omega),wV y l 0 [] h (by simp; omega),Option.bind_some]
  simp only [List.nil_append,thenC]
  rw [h1,Option.bind_some,hsm,Option.bind_some,bW (by rw [h2.length_eq]; omega),k1]; rfl
 ·rw [k3,← DN]
  simp only [gJ,false_or]
  unfold mem
  exact⟨fun⟨r,hr,k⟩=>⟨r,h2.mem_iff.1 hr,k⟩,fun⟨r,hr,k⟩=>⟨r,h2.mem_iff.2 hr,k⟩⟩
theorem Io (l m:List Rect) (hfl:∀ r∈l,fq r) (hfm:∀ r∈m,fq r) (h1:∀ y,(pU l y).length≤12) (h2:m.length≤12) (h3:l.length≤480) :
  ∃ bs:List Band,dw l m=some (fG bs)∧(fG bs).length≤1000000∧kK (-200000) bs∧(∀ y,aU (-200000) (rowAt bs y)∧(∀ r∈rowAt bs y,Okr r) ∧ ∀ x,mem x (rowAt bs y)↔eF l x y ∧ ¬ eF m x y):=by
 have hlm:∀ r∈l++m,fq r:=fun r hr=>by
  rcases List.mem_append.1 hr with hr | hr
  ·exact hfl r hr
  ·exact hfm r hr
 have hlen:(l++m).length≤492:=by simp; omega
 obtain ⟨ys,y1,y2,y3,y4⟩:=ME ((l++m).flatMap yE) (by rw [Ed (fun _=>rfl)]; omega)
 rw [Ed (fun _=>rfl)]at y4
 have ep:forL (l++m) ([]:List Int) (fun k x s=>fE k x s)=some (.go ((l++m).flatMap yE)):=by
  rw [bW (by omega),xY yE (fun _=>rfl) (l++m) 0 [] (fun k r s hr hs=>by
   obtain ⟨f1,f2,f3,f4⟩:=hlm r hr
   unfold fE
   rw [bz (by omega),iE _ _ (by simp; omega)]; rfl) (by simp at hlen ⊢; omega),List.nil_append]
 have inY:∀ r∈l++m,r.Y∈ys∧r.Y + r.H∈ys:=fun r hr=>⟨(y3 _).2 (List.mem_flatMap.2 ⟨r,hr,by simp [yE]⟩),(y3 _).2 (List.mem_flatMap.2 ⟨r,hr,by simp [yE]⟩)⟩
 have hby:∀ y∈ys,Bd y:=fun y hy=>by
  obtain ⟨r,hr,hy⟩:=List.mem_flatMap.1 ((y3 y).1 hy)
  obtain ⟨f1,f2,f3,f4⟩:=hlm r hr
  simp only [yE,List.mem_cons,List.not_mem_nil,or_false]at hy
  unfold Bd; omega
 have rows:∀ y:Int,∃ R:List Run,((dE l y).bind fun r_45=>(dE m y).bind fun r_47=>(iG r_45 r_47).bind fun r_49=>some r_49)=some R∧aU (-200000) R∧(∀ x,mem x R↔eF l x y ∧ ¬ eF m x y)∧(∀ r∈R,Okr r)∧R.length≤12 * 13:=by
  intro y
  obtain ⟨A,a1,a2,a3,a4,a5⟩:=Oe l y hfl (h1 y) (by omega)
  obtain ⟨C,b1,b2,b3,b4,b5⟩:=KF m y hfm h2
  obtain ⟨R,r1,r2,r3,r4,r5⟩:=KH A C a2 b2 a5 a4 (by omega)
  exact⟨R,by rw [a1,Option.bind_some,b1,Option.bind_some,r1,Option.bind_some],r2,fun x=>by rw [r3,a3,b3],r5,Nat.le_trans r4 (Nat.mul_le_mul a4 (by omega))⟩
 obtain ⟨Rw,hRw⟩:=Classical.axiomOfChoice rows
 have hcong:∀ y y':Int,(∀ x,(eF l x y ∧ ¬ eF m x y)↔(eF l x y' ∧ ¬ eF m x y'))→Rw y=Rw y':=fun y y' h=>by
  obtain ⟨_,c1,c2,_⟩:=hRw y
  obtain ⟨_,d1,d2,_⟩:=hRw y'
  exact yI c1 d1 (fun x=>by rw [c2,d2]; exact h x)
 have hnone:∀ y:Int,(∀ x,¬ eF l x y)→Rw y = []:=fun y h=>by
  obtain ⟨_,c1,c2,_⟩:=hRw y
  exact Fx c1 (fun x hx=>h x ((c2 x).1 hx).1)
 have fY:Fits Rw ys:=by
  have p3:∀ r∈l,r.Y∈ys∧r.Y + r.H∈ys:=fun r hr=>inY r (by simp [hr])
  have p4:∀ r∈m,r.Y∈ys∧r.Y + r.H∈ys:=fun r hr=>inY r (by simp [hr])
  refine⟨y2,fun y hy=>by have:=hby y hy; unfold Bd at this; omega,fun j a b ha hb y h1 h2=>hcong _ _ (fun x => ?_),fun y hy=>hnone y ?_,fun y hy=>hnone y ?_⟩
  ·exact and_congr (FK y2 p3 ha hb h1 h2 x) (not_congr (FK y2 p4 ha hb h1 h2 x))
  ·rintro x ⟨r,hr,_,k1,k2⟩
   have:=hy _ (p3 r hr).2; omega
  ·rintro x ⟨r,hr,_,k1,k2⟩
   have:=hy _ (p3 r hr).1; omega
 have hreg:dw l m=(forL ys (([]:List Rect),([]:List Run),(0:Int)) (fun k x s=>dz ys l m k x s)).bind fun o_38=>thenC o_38 (fun s_32=>some s_32.1) (fun _=>none):=by
  unfold dw
  rw [Fb l m (by simp at hlen; omega),Option.bind_some,ep,Option.bind_some]
  simp only [thenC]
  obtain ⟨s,c,g1,g2,g3,g4,g5,g6⟩:=Nh ((l++m).flatMap yE) (by rw [Ed (fun _=>rfl)]; omega)
  have hsm:jE s ((l++m).flatMap yE)=some ():=by unfold jE; rw [if_pos g2]
  rw [g1,Option.bind_some,hsm,Option.bind_some,g3,Option.bind_some]at y1
  simp only [Option.some.injEq]at y1
  subst y1
  rw [g1,Option.bind_some,hsm,Option.bind_some,g3,Option.bind_some]
 have progr:dw l m=some (fG (fC (jv Rw ys) [] 0))∧(fG (fC (jv Rw ys) [] 0)).length≤1000000:=by
  rw [hreg]
  cases hy0:ys with
  | nil=>exact⟨by rw [bW (by simp)]; rfl,Nat.zero_le _⟩
  | cons ya yl =>
   rw [← hy0]
   have hyl:0 < ys.length:=by rw [hy0]; simp
   have hm:(ys.length - 1 + 2) * (12 * 13)≤1000 * (12 * 13):=Nat.mul_le_mul (by omega) (Nat.le_refl _)
   obtain ⟨b2,f2,q1,q4⟩:=simP ys l m (12 * 13) (by omega) (by omega) hby Rw (fun j y _ _=>by
    obtain ⟨r1,r2,r3,r5,r4⟩:=hRw y
    exact⟨r1,r5,r4⟩) (ys.length - 1) 0 ya [] [] 0 (by omega) (by rw [hy0]; rfl) (by unfold Bd; omega) (fun r hr=>by cases hr) (by simp) (by simp; omega)
   rw [List.drop_zero]at q1 q4
   exact⟨by rw [bW (by omega),q1]; rfl,by omega⟩
 obtain ⟨b1,b2⟩:=Cn fY 0
 refine⟨_,progr.1,progr.2,b1,fun y => ?_⟩
 obtain ⟨r1,r2,r3,r5,r4⟩:=hRw y
 rw [b2]
 exact⟨r2,r5,r3⟩
end Go.Proofs.YtjhcehhmdmbleaaGreatDoor.Law

open Go Go.Eng
namespace Go.Proofs.YtjhcehhmdmbleaaGreatDoor.Law
set_option linter.unusedVariables false
set_option linter.unusedSimpArgs false
theorem Nf {zs:List Zone} {i k:Nat} {x y:Int} (hi:qG zs i x y) (hk:qG zs k x y):i=k:=by
 obtain ⟨⟨a,a1,a2⟩,a3⟩:=hi
 obtain ⟨⟨b,b1,b2⟩,b3⟩:=hk
 by_cases h:i=k
 ·exact h
 ·exfalso
  rcases cov_tot a1 b1 h with g | g
  ·exact b3 i (List.getElem?_eq_some_iff.1 a1).1 ⟨a,a1,a2⟩ g
  ·exact a3 k (List.getElem?_eq_some_iff.1 b1).1 ⟨b,b1,b2⟩ g
def vC (zs:List Zone) (Rf:Nat→List Rect) (k:Nat) (z:Zone):Prop :=
 ∃ bs:List Band,Rf k=fG bs∧kK (-200000) bs∧(∀ y,aU (-200000) (rowAt bs y)∧(∀ r∈rowAt bs y,Okr r) ∧ ∀ x,mem x (rowAt bs y)↔qG zs k x y) ∧ ∃ above:List Rect,(∀ r∈above,fq r)∧fq z.On ∧ ∀ x y,qG zs k x y↔eF [z.On] x y ∧ ¬ eF above x y
theorem vC.ind {zs:List Zone} {Rf:Nat→List Rect} {k:Nat} {z:Zone} (h:vC zs Rf k z) (x y:Int):gZ (Rf k) x y=P01 (qG zs k x y):=by
 obtain ⟨bs,h1,h2,h3,above,h4,h5,h6⟩:=h
 have:=(rV (l := [z.On]) (m:=above) (fun r hr=>by rw [List.mem_singleton]at hr; subst hr; exact h5) h2 (fun y=>⟨(h3 y).1,(h3 y).2.1,fun x=>by rw [(h3 y).2.2,h6]⟩)).2.1 x y
 unfold gZ
 rw [h1,this]
 exact wU (h6 x y).symm
theorem vC.inn {zs:List Zone} {Rf:Nat→List Rect} {k:Nat} {z:Zone} (hz:zs[k]? = some z) (h:vC zs Rf k z) {r:Rect} (hr:r∈Rf k):fq r∧z.On.X≤r.X∧r.X + r.W≤z.On.X + z.On.W∧z.On.Y≤r.Y∧r.Y + r.H≤z.On.Y + z.On.H:=by
 obtain ⟨bs,h1,h2,h3,above,h4,h5,h6⟩:=h
 rw [h1]at hr
 have hf:=(rV (l := [z.On]) (m:=above) (fun r hr=>by rw [List.mem_singleton]at hr; subst hr; exact h5) h2 (fun y=>⟨(h3 y).1,(h3 y).2.1,fun x=>by rw [(h3 y).2.2,h6]⟩)).1 r hr
 have key:∀ x y,r.X≤x→x < r.X + r.W→r.Y≤y→y < r.Y + r.H→iY x y z.On=true:=fun x y a b c d=>by
  obtain ⟨q,q1,q2,q3⟩:=DI h2 hr c d
  have hm:mem x (rowAt bs y):=⟨q,q1,by omega,by omega⟩
  obtain ⟨⟨z',e1,e2⟩,_⟩:=((h3 y).2.2 x).1 hm
  rw [hz]at e1
  simp only [Option.some.injEq]at e1
  subst e1; exact e2
 obtain ⟨f1,f2,f3,f4⟩:=id hf
 have k1:=key r.X r.Y (Int.le_refl _) (by omega) (Int.le_refl _) (by omega)
 have k2:=key (r.X + r.W - 1) (r.Y + r.H - 1) (by omega) (by omega) (by omega) (by omega)
 simp only [iY,Bool.and_eq_true,decide_eq_true_eq]at k1 k2
 exact⟨hf,by omega,by omega,by omega,by omega⟩
theorem vC.edge {zs:List Zone} {Rf:Nat→List Rect} {k:Nat} {z:Zone} (h:vC zs Rf k z) {r:Rect} (hr:r∈Rf k) {y:Int} (h1:r.Y≤y) (h2:y < r.Y + r.H):r.X∈zs.flatMap (fun z => [z.On.X,z.On.X + z.On.W]):=by
 obtain ⟨bs,g1,g2,g3,above,g4,g5,g6⟩:=h
 rw [g1]at hr
 obtain ⟨q,q1,q2,q3⟩:=DI g2 hr h1 h2
 obtain ⟨c1,c2,c3⟩:=g3 y
 have hq:=c1.lo q q1
 have m1:mem q.f_from (rowAt bs y):=⟨q,q1,Int.le_refl _,hq.2⟩
 have m2:=yo c1 q q1
 rw [c3]at m1 m2
 rw [q2]
 generalize q.f_from=x at *
 refine Classical.byContradiction (fun hn=>m2 ?_)
 have same:∀ i,Lt zs x y i↔Lt zs (x - 1) y i:=fun i=>by
  unfold Lt
  refine exists_congr (fun z'=>and_congr_right (fun hz' => ?_))
  have hm:=List.mem_of_getElem? hz'
  have n1:x≠z'.On.X:=fun e=>hn (List.mem_flatMap.2 ⟨z',hm,by simp [e]⟩)
  have n2:x≠z'.On.X + z'.On.W:=fun e=>hn (List.mem_flatMap.2 ⟨z',hm,by simp [e]⟩)
  simp only [iY,Bool.and_eq_true,decide_eq_true_eq]
  omega
 exact⟨(same k).1 m1.1,fun i hi hh=>m1.2 i hi ((same i).2 hh)⟩
section
variable (zs:List Zone) (Rf:Nat→List Rect) (hR:∀ (k:Nat) (z:Zone),zs[k]? = some z→vC zs Rf k z)
include hR
theorem Dn (x y:Int):∀ (l:List Zone) (k:Nat),zs.drop k=l→gZ ((cZ Rf l k).map (·.On)) x y=P01 (∃ j,k≤j∧j < zs.length∧qG zs j x y)
 | [],k,h=>by
  rw [qh]
  ·rfl
  ·rintro ⟨j,h1,h2,_⟩
   have:=List.drop_eq_nil_iff.1 h
   omega
 | z::l,k,h=>by
  have hg:=nM h
  have hlt:=oQ h
  have e:((cZ Rf (z::l) k).map (·.On))=Rf k++(cZ Rf l (k + 1)).map (·.On):=by
   rw [cZ,List.map_append,List.map_map]
   congr 1
   exact (List.map_congr_left (fun r _=>rfl)).trans (List.map_id _)
  have ih:=Dn x y l (k + 1) (aN h)
  have h1:=(hR k z hg).ind x y
  unfold gZ at *
  rw [e,zl,h1,ih]
  by_cases hs:qG zs k x y
  ·rw [uW hs,qh,uW ⟨k,Nat.le_refl _,hlt,hs⟩]
   ·rfl
   ·rintro ⟨j,j1,j2,j3⟩
    have:=Nf hs j3
    omega
  ·rw [qh hs,Int.zero_add]
   refine wU ⟨?_,?_⟩
   ·rintro ⟨j,j1,j2,j3⟩; exact⟨j,by omega,j2,j3⟩
   ·rintro ⟨j,j1,j2,j3⟩
    rcases Nat.eq_or_lt_of_le j1 with g | g
    ·subst g; exact absurd j3 hs
    ·exact⟨j,g,j2,j3⟩
omit hR in
theorem Ci:∀ (l:List Zone) (k:Nat),zs.drop k=l → ∀ p∈cZ Rf l k,∃ (j:Nat) (z:Zone),zs[j]? = some z∧p.On∈Rf j
 | [],_,_,p,hp=>by cases hp
 | z::l,k,h,p,hp=>by
  rw [cZ]at hp
  rcases List.mem_append.1 hp with hp | hp
  ·obtain ⟨r,hr,rfl⟩:=List.mem_map.1 hp
   exact⟨k,z,nM h,hr⟩
  ·exact Ci l (k + 1) (aN h) p hp
theorem JJ (W H:Int) (hi:∀ z∈zs,0≤z.On.X∧z.On.X + z.On.W≤W∧0≤z.On.Y∧z.On.Y + z.On.H≤H) :
  (∀ x y,gZ ((cZ Rf zs 0).map (·.On)) x y≤1)∧(∀ r∈(cZ Rf zs 0).map (·.On),fq r∧0≤r.X∧r.X + r.W≤W∧0≤r.Y∧r.Y + r.H≤H) ∧ ∀ y,(((cZ Rf zs 0).map (·.On)).filter (covers y)).length≤2 * zs.length:=by
 have a1:∀ x y,gZ ((cZ Rf zs 0).map (·.On)) x y≤1:=fun x y=>by
  rw [Dn zs Rf hR x y zs 0 rfl]
  unfold P01
  split <;> omega
 have a2:∀ r∈(cZ Rf zs 0).map (·.On),∃ (j:Nat) (z:Zone),zs[j]? = some z∧r∈Rf j:=fun r hr=>by
  obtain ⟨p,hp,rfl⟩:=List.mem_map.1 hr
  exact Ci zs Rf zs 0 rfl p hp
 have a3:∀ r∈(cZ Rf zs 0).map (·.On),fq r∧0≤r.X∧r.X + r.W≤W∧0≤r.Y∧r.Y + r.H≤H:=fun r hr=>by
  obtain ⟨j,z,b1,b2⟩:=a2 r hr
  obtain ⟨c1,c2,c3,c4,c5⟩:=(hR j z b1).inn b1 b2
  have:=hi z (List.mem_of_getElem? b1)
  exact⟨c1,by omega,by omega,by omega,by omega⟩
 refine⟨a1,a3,fun y => ?_⟩
 have hn:=row_nodup y _ (fun x=>a1 x y) (fun r hr=>by
  obtain ⟨f1,f2,f3,f4⟩:=(a3 r hr).1
  exact f3.1)
 have:=zM _ (zs.flatMap (fun z => [z.On.X,z.On.X + z.On.W])) hn (fun x hx=>by
  obtain ⟨r,hr,rfl⟩:=List.mem_map.1 hx
  obtain ⟨r1,r2⟩:=List.mem_filter.1 hr
  obtain ⟨j,z,b1,b2⟩:=a2 r r1
  simp only [covers,Bool.and_eq_true,decide_eq_true_eq]at r2
  exact (hR j z b1).edge b2 r2.1 r2.2)
 rw [List.length_map]at this
 have e:∀ l:List Zone,(l.flatMap (fun z => [z.On.X,z.On.X + z.On.W])).length=2 * l.length:=fun l=>by
  induction l with
  | nil=>rfl
  | cons z l ih=>rw [List.flatMap_cons,List.length_append,ih,List.length_cons]; simp; omega
 rw [e]at this
 exact this
end
theorem KT {α β:Type} (sc:α→β) (f:β→Bool) (g:α→Bool):∀ l:List α,(∀ r∈l,f (sc r)=true→g r=true)→((l.map sc).filter f).length≤(l.filter g).length
 | [],_=>Nat.le_refl _
 | r::l,h=>by
  have ih:=KT sc f g l (fun q hq=>h q (by simp [hq]))
  rw [List.map_cons,List.filter_cons,List.filter_cons]
  cases hf:f (sc r)with
  | false =>
   simp only [Bool.false_eq_true,if_false]
   cases g r <;> simp <;> omega
  | true =>
   rw [h r (by simp) hf]; simp; omega
theorem Gf {w h W H:Int} (h0:0 < h) (H0:0 < H) (r:Rect) (y:Int) (hw:(scR w h W H r).W > 0) (hc:covers y (scR w h W H r)=true):covers (back h H y) r=true:=by
 have a3:=tJ (t:=r.Y) (y:=y) h0 H0
 have a4:=tJ (t:=r.Y + r.H) (y:=y) h0 H0
 unfold scR at hw hc
 generalize r.X * W / w=X0 at *
 generalize (r.X + r.W) * W / w=X1 at *
 generalize r.Y * H / h=Y0 at *
 generalize (r.Y + r.H) * H / h=Y1 at *
 cases hz:((X1 - X0 == 0) || (Y1 - Y0 == 0))with
 | true=>rw [hz]at hw; simp only [cond_true]at hw; omega
 | false =>
  rw [hz]at hc
  simp only [cond_false,covers,Bool.and_eq_true,decide_eq_true_eq]at hc ⊢
  omega
theorem Da {w h W H:Int} (w0:0 < w) (h0:0 < h) (W0:0 < W) (H0:0 < H) (x y:Int) (l:List Rect):gZ (l.map (scR w h W H)) x y=gZ l (back w W x) (back h H y):=by
 unfold gZ
 rw [qP]
 exact kT (fun r _=>by unfold ind; rw [LA w0 h0 W0 H0])
theorem xL (x y:Int):∀ l:List Rect,gZ (l.filter (fun r=>decide (r.W > 0))) x y=gZ l x y
 | []=>rfl
 | r::l=>by
  have ih:=xL x y l
  unfold gZ at *
  rw [List.filter_cons]
  cases hc:decide (r.W > 0)with
  | true=>simp only [if_true]; rw [fI,fI,ih]
  | false =>
   simp only [Bool.false_eq_true,if_false]
   rw [fI,ih,Ng,Int.zero_add]
   simp only [decide_eq_false_iff_not]at hc
   unfold iY
   cases h1:decide (r.X≤x)with
   | false=>rfl
   | true =>
    have:decide (x < r.X + r.W)=false:=by
     simp only [decide_eq_true_eq]at h1
     rw [decide_eq_false_iff_not]; omega
    rw [this]; rfl
end Go.Proofs.YtjhcehhmdmbleaaGreatDoor.Law

open Go Go.Eng
namespace Go.Proofs.YtjhcehhmdmbleaaGreatDoor.Law
set_option linter.unusedVariables false
set_option linter.unusedSimpArgs false
def Apart (a b:Rect):Prop := ∀ x y,¬ (iY x y a=true∧iY x y b=true)
theorem Fa (x:Screen) (hx:fq x.On):∀ (l:List Screen) (k:Nat),(∀ s∈l,fq s.On)→(forR (fun k x_51 s=>cB x k x_51 s) l k ()=some (.go ()) ∧ ∀ s∈l,Apart x.On s.On)∨forR (fun k x_51 s=>cB x k x_51 s) l k ()=some (.ret 13)
 | [],k,_ => .inl ⟨rfl,fun s hs=>by cases hs⟩
 | y::l,k,h=>by
  have hm:=GZ hx.bnd (h y (by simp)).bnd
  have hB:cB x k y ()=some (bif (dB x.On y.On).2 then .ret 13 else .go ()):=by
   unfold cB
   rw [hm,Option.bind_some]
   cases (dB x.On y.On).2 <;> rfl
  rw [forR,hB,Option.bind_some]
  cases hc:(dB x.On y.On).2 with
  | true=>exact .inr rfl
  | false =>
   rcases Fa x hx l (k + 1) (fun s hs=>h s (by simp [hs]))with⟨h1,h2⟩ | h1
   ·refine .inl ⟨h1,fun s hs => ?_⟩
    rcases List.mem_cons.1 hs with rfl | hs
    ·exact fun a b=>JF hc a b
    ·exact h2 s hs
   ·exact .inr h1
theorem EN (w:Wall) (hf:∀ s∈w.Screens,fq s.On) (hl:w.Screens.length≤1000):∀ (l:List Screen) (k:Nat),w.Screens.drop k=l→(forR (fun k x s=>bH w k x s) l k ()=some (.go ()) ∧ ∀ (j:Nat) (x:Screen),k≤j→w.Screens[j]? = some x → ∀ s∈w.Screens.take j,Apart x.On s.On)∨forR (fun k x s=>bH w k x s) l k ()=some (.ret 13)
 | [],k,h => .inl ⟨rfl,fun j x hj hx=>by
   have h1:=List.drop_eq_nil_iff.1 h
   have h2:=(List.getElem?_eq_some_iff.1 hx).1
   omega⟩
 | x::l,k,h=>by
  have hlt:=oQ h
  have hg:=nM h
  have hsub:zf w.Screens 0 (k:Int)=some (w.Screens.take k):=by
   unfold zf
   rw [if_pos ⟨by omega,by omega,by omega,by omega⟩]; simp
  have hB:(bH w k x ()=some (.go ()) ∧ ∀ s∈w.Screens.take k,Apart x.On s.On)∨bH w k x ()=some (.ret 13):=by
   unfold bH
   rw [hsub,Option.bind_some,bW (by rw [List.length_take]; omega)]
   rcases Fa x (hf x (List.mem_of_getElem? hg)) (w.Screens.take k) 0 (fun s hs=>hf s (List.mem_of_mem_take hs))with⟨h1,h2⟩ | h1
   ·left; rw [h1]; exact⟨rfl,h2⟩
   ·right; rw [h1]; rfl
  rw [forR]
  rcases hB with⟨hB,hA⟩ | hB
  ·rw [hB,Option.bind_some]
   rcases EN w hf hl l (k + 1) (aN h)with⟨h1,h2⟩ | h1
   ·refine .inl ⟨h1,fun j y hj hy => ?_⟩
    rcases Nat.eq_or_lt_of_le hj with e | e
    ·subst e
     rw [hg]at hy
     simp only [Option.some.injEq]at hy
     subst hy; exact hA
    ·exact h2 j y e hy
   ·exact .inr h1
  ·rw [hB]; exact .inr rfl
theorem xy (w:Wall) (hf:∀ s∈w.Screens,fq s.On) (hl:w.Screens.length≤1000) (h:z8 w=some 0):(w.Screens.map (·.On)).Pairwise Apart:=by
 unfold z8 at h
 rw [bW (by omega)]at h
 rcases EN w hf hl w.Screens 0 rfl with⟨_,h2⟩ | h1
 ·rw [List.pairwise_map,List.pairwise_iff_getElem]
  intro i j hi hj hij
  have:=h2 j _ (Nat.zero_le _) (List.getElem?_eq_getElem hj) w.Screens[i] (by
   rw [List.mem_take_iff_getElem]
   exact⟨i,by omega,rfl⟩)
  exact fun x y ⟨a,b⟩=>this x y ⟨b,a⟩
 ·rw [h1]at h; cases h
def ic (s:Screen) (p:Piece):List View :=
 bif (dB s.On p.On).2 then [(⟨s.Key,p.Zone,⟨(dB s.On p.On).1.X - s.On.X,(dB s.On p.On).1.Y - s.On.Y,(dB s.On p.On).1.W,(dB s.On p.On).1.H⟩⟩:View)]else []
theorem yA (s:Screen) (p:Piece):(ic s p).length≤1:=by
 unfold ic
 cases (dB s.On p.On).2 <;> simp
theorem CF {α β:Type} (f:α→List β) (c:Nat):∀ l:List α,(∀ x∈l,(f x).length≤c)→(l.flatMap f).length≤c * l.length
 | [],_=>Nat.zero_le _
 | x::l,h=>by
  have:=CF f c l (fun y hy=>h y (by simp [hy]))
  have:=h x (by simp)
  rw [List.flatMap_cons,List.length_append,List.length_cons,Nat.mul_succ]; omega
theorem CE (s:Screen) (hs:Bnd s.On):∀ (l:List Piece) (k:Nat) (out:List View),(∀ p∈l,Bnd p.On)→out.length + l.length≤1000000→forR (fun k x t=>jd s k x t) l k out=some (.go (out++l.flatMap (ic s)))
 | [],k,out,_,_=>by simp [forR]
 | p::l,k,out,h,hl=>by
  simp only [List.length_cons]at hl
  have hp:=h p (by simp)
  have hB:jd s k p out=some (.go (out++ic s p)):=by
   unfold jd ic
   have hm:=EZ hs hp
   rw [GZ hs hp,Option.bind_some]
   unfold ql
   unfold Bnd at hm hs
   rw [bz (n:=(dB s.On p.On).1.X - s.On.X) (by omega),bz (n:=(dB s.On p.On).1.Y - s.On.Y) (by omega),Option.bind_some,iE _ _ (by simp; omega)]
   cases (dB s.On p.On).2 with
   | true=>rfl
   | false=>simp
  rw [forR,hB,Option.bind_some]
  simp only
  rw [CE s hs l (k + 1) _ (fun q hq=>h q (by simp [hq])) (by have:=yA s p; rw [List.length_append]; omega),List.flatMap_cons,List.append_assoc]
theorem EC (s:Screen):∀ l:List Piece,(∀ p∈l,p.On=⟨0,0,0,0⟩∨p.On.W > 0)→(l.filter (fun p=>decide (p.On.W > 0))).flatMap (ic s)=l.flatMap (ic s)
 | [],_=>rfl
 | p::l,h=>by
  have ih:=EC s l (fun q hq=>h q (by simp [hq]))
  rw [List.filter_cons]
  cases hc:decide (p.On.W > 0)with
  | true=>simp only [if_true,List.flatMap_cons,ih]
  | false =>
   simp only [Bool.false_eq_true,if_false,List.flatMap_cons,ih]
   have e:ic s p = []:=by
    rcases h p (by simp)with k | k
    ·unfold ic; rw [k,Jf]; rfl
    ·simp only [decide_eq_false_iff_not]at hc; exact absurd k hc
   rw [e,List.nil_append]
theorem Lv (s:Screen) (p:Piece):fI (fun v:View=>v.On.W * v.On.H) (ic s p)=(dB s.On p.On).1.W * (dB s.On p.On).1.H:=by
 unfold ic
 cases hc:(dB s.On p.On).2 with
 | true=>simp [fI]
 | false =>
  have:(dB s.On p.On).1=⟨0,0,0,0⟩:=by
   unfold dB at hc ⊢
   cases hd:decide (min (s.On.X + s.On.W) (p.On.X + p.On.W) - max s.On.X p.On.X≤0) || decide (min (s.On.Y + s.On.H) (p.On.Y + p.On.H) - max s.On.Y p.On.Y≤0)with
   | true=>rfl
   | false=>rw [hd]at hc; cases hc
  rw [this]; rfl
end Go.Proofs.YtjhcehhmdmbleaaGreatDoor.Law

open Go Go.Eng
namespace Go.Proofs.YtjhcehhmdmbleaaGreatDoor.Law
set_option linter.unusedVariables false
set_option linter.unusedSimpArgs false
theorem M0 {w:Wall}:∀ (l:List Screen) (last:ByteArray),chk (fun s:Screen=>s.Key) (Ae w) last l=0 → ∀ s∈l,fq s.On∧tH s.On w.W w.H=true
 | [],_,_,s,hs=>by cases hs
 | x::l,last,h,s,hs=>by
  rw [chk]at h
  cases he:Ae w last x == 0 with
  | false=>rw [he,cond_false]at h; rw [h]at he; cases he
  | true =>
   rw [he,cond_true]at h
   rcases List.mem_cons.1 hs with rfl | hs
   ·have he:=eq_of_beq he
    unfold Ae at he
    cases hk:nT s.Key with
    | false=>rw [hk]at he; cases he
    | true =>
     cases hb:tN s.On with
     | true=>rw [hk,hb]at he; cases he
     | false =>
      cases hi:tH s.On w.W w.H with
      | false=>rw [hk,hb,hi]at he; cases he
      | true=>exact⟨Fs hb,rfl⟩
   ·exact M0 l _ h s hs
theorem JA {w:Wall} (hw:dI w=some 0) (hk:WOk w) (hl:w.Screens.length≤4) :
  (∀ s∈w.Screens,fq s.On∧0≤s.On.X∧s.On.X + s.On.W≤w.W∧0≤s.On.Y∧s.On.Y + s.On.H≤w.H) ∧ ∀ x y,gZ (w.Screens.map (·.On)) x y≤1:=by
 obtain ⟨e,w1,w2,w3⟩:=G5 w hk.1 hk.2 (by omega)
 rw [hw]at w1
 obtain ⟨_,_,hc,hp⟩:=w3 (Option.some.inj w1).symm
 have hin:=M0 w.Screens uA hc
 refine⟨fun s hs => ?_,fun x y=>yx x y _ (xy w (fun s hs=>(hin s hs).1) (by omega) hp)⟩
 obtain ⟨f,i⟩:=hin s hs
 have f':=id f
 unfold fq at f'
 unfold tH at i
 rw [bz (n:=s.On.X + s.On.W) (by omega),bz (n:=s.On.Y + s.On.H) (by omega)]at i
 simp only [Bool.and_eq_true,decide_eq_true_eq]at i
 exact⟨f,by omega,by omega,by omega,by omega⟩
theorem Dp {a b:Rect} (h:(dB a b).2=true):1≤(dB a b).1.W∧1≤(dB a b).1.H∧a.X≤(dB a b).1.X∧b.X≤(dB a b).1.X∧(dB a b).1.X + (dB a b).1.W≤a.X + a.W∧(dB a b).1.X + (dB a b).1.W≤b.X + b.W∧a.Y≤(dB a b).1.Y∧b.Y≤(dB a b).1.Y∧(dB a b).1.Y + (dB a b).1.H≤a.Y + a.H∧(dB a b).1.Y + (dB a b).1.H≤b.Y + b.H:=by
 unfold dB at h ⊢
 cases hc:decide (min (a.X + a.W) (b.X + b.W) - max a.X b.X≤0) || decide (min (a.Y + a.H) (b.Y + b.H) - max a.Y b.Y≤0)with
 | true=>rw [hc]at h; cases h
 | false =>
  simp only [Bool.or_eq_false_iff,decide_eq_false_iff_not]at hc
  simp only [cond_false]
  omega
end Go.Proofs.YtjhcehhmdmbleaaGreatDoor.Law

open Go Go.Eng
namespace Go.Proofs.YtjhcehhmdmbleaaGreatDoor.Law
set_option linter.unusedVariables false
set_option linter.unusedSimpArgs false
def quads (w h x y:Int):List Rect := [⟨0,0,x,y⟩,⟨x,0,w - x,y⟩,⟨0,y,x,h - y⟩,⟨x,y,w - x,h - y⟩]
def parts (w h x y W H:Int):List Rect:=((quads w h x y).map (scR w h W H)).filter (fun r=>decide (r.W > 0))
end Go.Proofs.YtjhcehhmdmbleaaGreatDoor.Law

open Go Go.Eng
namespace Go.Proofs.YtjhcehhmdmbleaaGreatDoor.Law
set_option linter.unusedVariables false
set_option linter.unusedSimpArgs false
theorem J2 {r:Rect} {w h W H:Int} (hx:0≤r.X∧1≤r.W∧r.X + r.W≤w) (hy:0≤r.Y∧1≤r.H∧r.Y + r.H≤h) (hw:1≤w∧w≤20000) (hh:1≤h∧h≤20000) (hW:1≤W∧W≤20000) (hH:1≤H∧H≤20000) :
  lV r w h W H=some (scR w h W H r,0):=by
 have hb:tN r=false:=Ar (by unfold fq; omega)
 have hi:gK r w h=some true:=by
  unfold gK
  rw [bz (n:=r.X + r.W) (by omega),bz (n:=r.Y + r.H) (by omega),decide_eq_true (by omega),decide_eq_true (by omega),decide_eq_true (by omega),decide_eq_true (by omega)]; rfl
 unfold lV
 rw [qj,hb,sides4K,show sS w=false from jq (by omega),show sS h=false from jq (by omega),show sS W=false from jq (by omega),show sS H=false from jq (by omega),hi,Fz r w h W H (by omega) (by omega) hw hh hW hH]
 rfl
end Go.Proofs.YtjhcehhmdmbleaaGreatDoor.Law

open Go Go.Eng
namespace Go.Proofs.YtjhcehhmdmbleaaGreatDoor.Law
set_option linter.unusedVariables false
set_option linter.unusedSimpArgs false
theorem CU {α β:Type} (f:α→β) {body:Nat→α→List β→Option (Ctl (List β) Unit)}:∀ (l:List α) (k:Nat) (s:List β),(∀ k r s,s.length≤1000000→body k r s=some (.go (s ++ [f r])))→s.length + l.length≤1000000→forR body l k s=some (.go (s++l.map f))
 | [],k,s,_,_=>by simp [forR]
 | r::l,k,s,h,hl=>by
  simp only [List.length_cons]at hl
  rw [forR,h k r s (by omega),Option.bind_some]
  simp only
  rw [CU f l (k + 1) _ h (by simp; omega)]
  simp
theorem EG {α β:Type} (f:α→List β) (c:Nat) {body:Nat→α→List β→Option (Ctl (List β) Unit)}:∀ (l:List α) (k:Nat) (s:List β),(∀ k r s,r∈l→s.length≤100000→body k r s=some (.go (s++f r)))→(∀ r∈l,(f r).length≤c)→s.length + c * l.length≤100000→forR body l k s=some (.go (s++l.flatMap f))
 | [],k,s,_,_,_=>by simp [forR]
 | r::l,k,s,h,hc,hl=>by
  rw [List.length_cons,Nat.mul_succ]at hl
  have:=hc r (by simp)
  rw [forR,h k r s (by simp) (by omega),Option.bind_some]
  simp only
  rw [EG f c l (k + 1) _ (fun k q s hq=>h k q s (by simp [hq])) (fun q hq=>hc q (by simp [hq])) (by rw [List.length_append]; omega)]
  simp
theorem Bf (L:Layout) (w:Wall) (sc:Piece→Piece):∀ (l:List Piece) (k:Nat) (out:List Piece),(∀ p∈l,jl p.On L.W L.H w.W w.H=some (sc p).On∧(sc p).Zone=p.Zone)→out.length + l.length≤1000000→forR (fun k x s=>iJ L w k x s) l k out=some (.go (out++(l.map sc).filter (fun p=>decide (p.On.W > 0))))
 | [],k,out,_,_=>by simp [forR]
 | p::l,k,out,h,hl=>by
  simp only [List.length_cons]at hl
  obtain ⟨h1,h2⟩:=h p (by simp)
  have hB:iJ L w k p out=some (.go (out++bif decide ((sc p).On.W > 0)then [sc p]else [])):=by
   unfold iJ
   rw [h1,Option.bind_some,← h2]
   cases decide ((sc p).On.W > 0)with
   | true=>rw [cond_true,iE _ _ (by simp; omega)]; rfl
   | false=>simp
  rw [forR,hB,Option.bind_some]
  simp only
  rw [Bf L w sc l (k + 1) _ (fun q hq=>h q (by simp [hq])) (by cases decide ((sc p).On.W > 0) <;> simp <;> omega),List.map_cons,List.filter_cons]
  cases decide ((sc p).On.W > 0) <;> simp
theorem zI {α ρ:Type} (f:α→Int) (C:Int) (hC:0≤C) {body:Nat→α→Int→Option (Ctl Int ρ)}:∀ (l:List α) (k:Nat) (s:Int),(∀ k x s,x∈l→body k x s=some (.go (w64 (s + w64 (f x)))))→(∀ x∈l,-C≤f x∧f x≤C) → -1000000000000000000≤s - C * l.length→s + C * l.length≤1000000000000000000→C≤1000000000000000000 →
  forR body l k s=some (.go (s + fI f l))∧s - C * l.length≤s + fI f l∧s + fI f l≤s + C * l.length
 | [],k,s,_,_,_,_,_=>by simp [forR,fI]
 | x::l,k,s,h,hb,h1,h2,h3=>by
  have hx:=hb x (by simp)
  have hl:0≤C * (l.length:Int):=Int.mul_nonneg hC (by omega)
  have hm:C * ((x::l).length:Int)=C * (l.length:Int) + C:=by rw [List.length_cons,Int.natCast_add,Int.mul_add]; simp
  rw [hm]at h1 h2 ⊢
  rw [forR,h k x s (by simp),Option.bind_some,bz (n:=f x) (by omega),bz (n:=s + f x) (by omega)]
  simp only
  obtain ⟨g1,g2,g3⟩:=zI f C hC l (k + 1) (s + f x) (fun k y s hy=>h k y s (by simp [hy])) (fun y hy=>hb y (by simp [hy])) (by omega) (by omega) h3
  rw [g1,fI,Int.add_assoc]
  exact⟨rfl,by omega,by omega⟩
theorem Aj {a b c d:Int} (h1:0≤a) (h2:a≤c) (h3:0≤b) (h4:b≤d):0≤a * b∧a * b≤c * d :=
 ⟨Int.mul_nonneg h1 h3,Int.le_trans (Int.mul_le_mul_of_nonneg_right h2 h3) (Int.mul_le_mul_of_nonneg_left h4 (by omega))⟩
theorem ER:∀ l:List Piece,(l.filter (fun p=>decide (p.On.W > 0))).map (·.On)=(l.map (·.On)).filter (fun r=>decide (r.W > 0))
 | []=>rfl
 | p::l=>by
  rw [List.map_cons,List.filter_cons,List.filter_cons]
  cases h:decide (p.On.W > 0) <;> simp [ER l]
theorem lost_eq (SR SPR:List Rect) (hS1:∀ x y,gZ SR x y≤1) (hP1:∀ x y,gZ SPR x y≤1) (x y:Int) :
  P01 (eF (SPR.filter (fun r=>decide (r.W > 0))) x y ∧ ¬ eF SR x y)=gZ SPR x y - gZ SR x y * gZ SPR x y:=by
 have e1:=xL x y SPR
 have e2:gZ (SPR.filter (fun r=>decide (r.W > 0))) x y=P01 (eF (SPR.filter (fun r=>decide (r.W > 0))) x y):=MJ (by rw [e1]; exact hP1 x y)
 have e3:gZ SR x y=P01 (eF SR x y):=MJ (hS1 x y)
 rw [← e1,e2,e3]
 by_cases a:eF (SPR.filter (fun r=>decide (r.W > 0))) x y
 ·by_cases b:eF SR x y
  ·rw [uW a,uW b,qh (fun h=>h.2 b)]; rfl
  ·rw [uW a,qh b,uW ⟨a,b⟩]; rfl
 ·rw [qh a,qh (fun h=>a h.1)]; simp
theorem showP (w:Wall) (L:Layout) (hwl:w.Screens.length≤5) (hll:L.Zones.length≤5) (w1:dI w=some 0) (v1:eB L=some 0) (hwW:1≤w.W∧w.W≤20000) (hwH:1≤w.H∧w.H≤20000) (hLW:1≤L.W∧L.W≤20000) (hLH:1≤L.H∧L.H≤20000)
  (hs:∀ s∈w.Screens,fq s.On) (hsw:∀ s∈w.Screens,0≤s.On.X∧s.On.X + s.On.W≤w.W∧0≤s.On.Y∧s.On.Y + s.On.H≤w.H) (hpw:z8 w=some 0) (hz:∀ z∈L.Zones,fq z.On∧tH z.On L.W L.H=true∧nT z.Key=true) (hp:L.Zones.Pairwise (fun a b=>lt a.Key b.Key)) (hkw:w.Screens.Pairwise (fun a b=>lt a.Key b.Key)) :
  ∃ (P:List Piece) (sc:Piece→Piece) (V:List View) (n:Int),lN w L=some (V,0)∧mZ w L=some (n,0)∧ll L=some (P,0)∧P.length≤390∧V.length≤1950 ∧
   (∀ p∈P,lV p.On L.W L.H w.W w.H=some ((sc p).On,0) ∧ -400000000≤(sc p).On.W * (sc p).On.H∧(sc p).On.W * (sc p).On.H≤400000000) ∧
   (∀ v∈V,fq v.On ∧ -400000000≤v.On.W * v.On.H∧v.On.W * v.On.H≤400000000) ∧
   V.Pairwise (fun u v=>u.Screen=v.Screen→(dB v.On u.On).2=false) ∧
   (0≤n∧n≤40000000000)∧n + fI (fun v:View=>v.On.W * v.On.H) V=fI (fun p=>(sc p).On.W * (sc p).On.H) P:=by
 obtain ⟨Rf,r1,r2,r4⟩:=MP L (fun z h=>⟨(hz z h).1,(hz z h).2.2⟩) hp hll
 have hIs:∀ (k:Nat) (z:Zone),L.Zones[k]? = some z→vC L.Zones Rf k z:=fun k z h=>(r1 k z h).2.2
 have hin:∀ z∈L.Zones,0≤z.On.X∧z.On.X + z.On.W≤L.W∧0≤z.On.Y∧z.On.Y + z.On.H≤L.H:=fun z h=>by
  obtain ⟨⟨f1,f2,f3,f4⟩,i,_⟩:=hz z h
  unfold tH at i
  rw [bz (n:=z.On.X + z.On.W) (by omega),bz (n:=z.On.Y + z.On.H) (by omega)]at i
  simp only [Bool.and_eq_true,decide_eq_true_eq]at i
  omega
 obtain ⟨p1,p2,p3⟩:=JJ L.Zones Rf hIs L.W L.H hin
 generalize hP:cZ Rf L.Zones 0=P at *
 obtain ⟨sc,hsc⟩:∃ sc:Piece→Piece,∀ p,sc p=⟨p.Zone,scR L.W L.H w.W w.H p.On⟩:=⟨_,fun _=>rfl⟩
 have hsOn:∀ p,(sc p).On=scR L.W L.H w.W w.H p.On:=fun p=>by rw [hsc]
 have hsZ:∀ p,(sc p).Zone=p.Zone:=fun p=>by rw [hsc]
 have hpin:∀ p∈P,fq p.On∧0≤p.On.X∧p.On.X + p.On.W≤L.W∧0≤p.On.Y∧p.On.Y + p.On.H≤L.H:=fun p h=>p2 _ (List.mem_map.2 ⟨p,h,rfl⟩)
 have hse:∀ p∈P,jl p.On L.W L.H w.W w.H=some (sc p).On:=fun p h=>by
  obtain ⟨⟨f1,f2,f3,f4⟩,i⟩:=hpin p h
  rw [hsOn]
  exact Fz p.On _ _ _ _ (by omega) (by omega) hLW hLH hwW hwH
 have hsi:∀ p∈P,0≤(sc p).On.X∧0≤(sc p).On.W∧(sc p).On.X + (sc p).On.W≤w.W∧0≤(sc p).On.Y∧0≤(sc p).On.H∧(sc p).On.Y + (sc p).On.H≤w.H∧((sc p).On=⟨0,0,0,0⟩∨(0 < (sc p).On.W∧0 < (sc p).On.H)):=fun p h=>by
  obtain ⟨⟨f1,f2,f3,f4⟩,i⟩:=hpin p h
  rw [hsOn]
  exact scR_in (by omega) (by omega) (by omega) (by omega) (by omega) (by omega)
 have hsb:∀ p∈P,Bnd (sc p).On:=fun p h=>by
  have:=hsi p h
  unfold Bnd; omega
 have hsb':∀ q∈P.map sc,Bnd q.On:=fun q h=>by
  obtain ⟨p,h1,rfl⟩:=List.mem_map.1 h
  exact hsb p h1
 have hsB:∀ s∈w.Screens,Bnd s.On:=fun s h=>(hs s h).bnd
 have hscal:kI w L=some ((P.map sc).filter (fun p=>decide (p.On.W > 0)),0):=by
  unfold kI
  rw [w1,Option.bind_some,v1]
  simp only [bne_self_eq_false,cond_false,Option.bind_some,r2]
  rw [bW (by omega),Bf L w sc P 0 [] (fun p h=>⟨hse p h,hsZ p⟩) (by simp; omega)]; rfl
 have hql:((P.map sc).filter (fun p=>decide (p.On.W > 0))).length≤390:=Nat.le_trans (List.length_filter_le _ _) (by rw [List.length_map]; exact r4)
 have hfl:∀ s∈w.Screens,((P.map sc).flatMap (ic s)).length≤390:=fun s _=>by
  have:=CF (ic s) 1 (P.map sc) (fun p _=>yA s p)
  rw [List.length_map]at this; omega
 have hV1:lN w L=some (w.Screens.flatMap (fun s=>(P.map sc).flatMap (ic s)),0):=by
  unfold lN
  rw [hscal,Option.bind_some]
  simp only [bne_self_eq_false,cond_false]
  rw [bW (by omega),EG (fun s=>(P.map sc).flatMap (ic s)) 390 w.Screens 0 [] (fun k s out hm ho=>by
   unfold mH
   simp only
   rw [bW (by omega),CE s (hsB s hm) _ 0 out (fun q hq=>hsb' q (List.mem_filter.1 hq).1) (by omega),EC s (P.map sc) (fun q hq=>by
    obtain ⟨p,h1,rfl⟩:=List.mem_map.1 hq
    rcases (hsi p h1).2.2.2.2.2.2 with g | g
    ·exact .inl g
    ·exact .inr g.1)]; rfl) hfl (by simp; omega)]; rfl
 have hVl:(w.Screens.flatMap (fun s=>(P.map sc).flatMap (ic s))).length≤390 * w.Screens.length:=CF _ 390 _ hfl
 have hap:(P.map sc).Pairwise (fun a b=>Apart a.On b.On):=by
  rw [List.pairwise_iff_getElem]
  intro i j hi hj hij x y ⟨e1,e2⟩
  have hP1':gZ ((P.map sc).map (·.On)) x y≤1:=by
   have e:(P.map sc).map (·.On)=(P.map (·.On)).map (scR L.W L.H w.W w.H):=by
    rw [List.map_map,List.map_map]
    exact List.map_congr_left (fun p _=>hsOn p)
   rw [e,Da (by omega) (by omega) (by omega) (by omega)]; exact p1 _ _
  have:=MR (l:=(P.map sc).map (·.On)) (x:=x) (y:=y) hij (by rw [List.getElem?_map,List.getElem?_eq_getElem hi]; rfl) (by rw [List.getElem?_map,List.getElem?_eq_getElem hj]; rfl) e1 e2
  omega
 have hpair:(w.Screens.flatMap (fun s=>(P.map sc).flatMap (ic s))).Pairwise (fun u v=>u.Screen=v.Screen→(dB v.On u.On).2=false):=by
  have hkey:∀ (s:Screen) (v:View),v∈(P.map sc).flatMap (ic s)→v.Screen=s.Key:=fun s v hv=>by
   obtain ⟨q,_,h2⟩:=List.mem_flatMap.1 hv
   unfold ic at h2
   cases hm:(dB s.On q.On).2 with
   | false=>rw [hm]at h2; cases h2
   | true =>
    rw [hm]at h2
    simp only [cond_true,List.mem_singleton]at h2
    rw [h2]
  refine List.pairwise_flatMap.2 ⟨fun s hs'=>List.pairwise_flatMap.2 ⟨fun q hq => ?_,hap.imp (fun {a b} hab u hu v hv _ => ?_)⟩,hkw.imp (fun {a b} hab u hu v hv he => ?_)⟩
  ·have:=yA s q
   match hq':ic s q with
   | []=>exact List.Pairwise.nil
   | [v]=>exact List.pairwise_singleton _ _
   | _::_::_=>rw [hq']at this; simp at this
  ·unfold ic at hu hv
   cases hma:(dB s.On a.On).2 with
   | false=>rw [hma]at hu; cases hu
   | true =>
    cases hmb:(dB s.On b.On).2 with
    | false=>rw [hmb]at hv; cases hv
    | true =>
     rw [hma]at hu; rw [hmb]at hv
     simp only [cond_true,List.mem_singleton]at hu hv
     cases hm:(dB v.On u.On).2 with
     | false=>rfl
     | true =>
      exfalso
      obtain ⟨x,y,e1,e2⟩:=Jy hm
      obtain ⟨_,_,_,ma4,_,ma6,_,ma8,_,ma10⟩:=Dp hma
      obtain ⟨_,_,_,mb4,_,mb6,_,mb8,_,mb10⟩:=Dp hmb
      rw [hv]at e1; rw [hu]at e2
      refine hab (x + s.On.X) (y + s.On.Y) ⟨?_,?_⟩
      ·simp only [iY,Bool.and_eq_true,decide_eq_true_eq]at e2 ⊢
       omega
      ·simp only [iY,Bool.and_eq_true,decide_eq_true_eq]at e1 ⊢
       omega
  ·rw [hkey _ _ hu,hkey _ _ hv]at he
   rw [he]at hab
   exact absurd hab (JO _)
 have hvf:∀ v∈w.Screens.flatMap (fun s=>(P.map sc).flatMap (ic s)),fq v.On:=fun v hv=>by
  obtain ⟨s,h1,h2⟩:=List.mem_flatMap.1 hv
  obtain ⟨q,h3,h4⟩:=List.mem_flatMap.1 h2
  have hb:=hsB s h1
  unfold ic at h4
  cases hm:(dB s.On q.On).2 with
  | false=>rw [hm]at h4; cases h4
  | true =>
   obtain ⟨m1,m2,m3,m4,m5,m6,m7,m8,m9,m10⟩:=Dp hm
   rw [hm]at h4
   simp only [cond_true,List.mem_singleton]at h4
   rw [h4]
   unfold Bnd at hb
   unfold fq
   have hw2:=hsw s h1
   simp only []
   omega
 generalize hVV:w.Screens.flatMap (fun s=>(P.map sc).flatMap (ic s))=V at *
 obtain ⟨SR,hSR⟩:∃ SR,SR=w.Screens.map (·.On):=⟨_,rfl⟩
 obtain ⟨SPR,hSPR⟩:∃ SPR,SPR=(P.map sc).map (·.On):=⟨_,rfl⟩
 have hQR:((P.map sc).filter (fun p=>decide (p.On.W > 0))).map (·.On)=SPR.filter (fun r=>decide (r.W > 0)):=by
  rw [hSPR]; exact ER _
 have hSPR2:SPR=(P.map (·.On)).map (scR L.W L.H w.W w.H):=by
  rw [hSPR,List.map_map,List.map_map]
  exact List.map_congr_left (fun p _=>hsOn p)
 have hP1:∀ x y,gZ SPR x y≤1:=fun x y=>by
  rw [hSPR2,Da (by omega) (by omega) (by omega) (by omega)]; exact p1 _ _
 have hS1:∀ x y,gZ SR x y≤1:=fun x y=>by
  rw [hSR]; exact yx x y _ (xy w hs (by omega) hpw)
 have hmQ:∀ r∈SPR.filter (fun r=>decide (r.W > 0)),fq r:=fun r h=>by
  obtain ⟨h1,h2⟩:=List.mem_filter.1 h
  rw [hSPR,List.map_map]at h1
  obtain ⟨p,h3,rfl⟩:=List.mem_map.1 h1
  have:=hsi p h3
  simp only [Function.comp,decide_eq_true_eq]at h2 ⊢
  rcases this.2.2.2.2.2.2 with g | g
  ·rw [g]at h2; simp at h2
  ·unfold fq; omega
 have hSF:∀ r∈SR,fq r:=fun r h=>by
  rw [hSR]at h
  obtain ⟨s,h1,rfl⟩:=List.mem_map.1 h
  exact hs s h1
 obtain ⟨bs,b1,b2,b3,b4⟩:=Io (SPR.filter (fun r=>decide (r.W > 0))) SR hmQ hSF (fun y=>by
  unfold pU
  rw [List.length_map,List.filter_filter,hSPR2]
  refine Nat.le_trans (KT (scR L.W L.H w.W w.H) _ (covers (back L.H w.H y)) _ (fun r _ h => ?_)) (Nat.le_trans (p3 (back L.H w.H y)) (by omega))
  simp only [Bool.and_eq_true,decide_eq_true_eq]at h
  exact Gf (by omega) (by omega) r y h.2 h.1) (by rw [hSR,List.length_map]; omega) (by rw [← hQR,List.length_map]; omega)
 obtain ⟨n,hn⟩:∃ n:Nat,n=200000:=⟨_,rfl⟩
 obtain ⟨g1,g2,g3⟩:=rV hmQ b3 b4
 have hA:=g3 n hn
 have hArea:lH (fG bs)=some (ED (fG bs)):=by
  unfold lH
  have hle:((fG bs).length:Int)≤1000000:=by omega
  have hmu:(40000000000:Int) * (fG bs).length≤40000000000 * 1000000:=Int.mul_le_mul_of_nonneg_left hle (by omega)
  have hmn:(0:Int)≤40000000000 * (fG bs).length:=Int.mul_nonneg (by omega) (by omega)
  have:=(zI (fun r:Rect=>r.W * r.H) 40000000000 (by omega) (body:=fun k x s=>nC k x s) (fG bs) 0 0 (fun k x s _=>rfl) (fun r h=>by
   obtain ⟨f1,f2,f3,f4⟩:=g1 r h
   have:=Aj (a:=r.W) (b:=r.H) (c:=200000) (d:=200000) (by omega) (by omega) (by omega) (by omega)
   omega) (by omega) (by omega) (by omega)).1
  rw [bW (by omega),this,Int.zero_add]; rfl
 have hL1:mZ w L=some (ED (fG bs),0):=by
  unfold mZ
  rw [hscal,Option.bind_some]
  simp only [bne_self_eq_false,cond_false]
  have hlit:qJ w=some SR:=by
   unfold qJ
   rw [bW (by omega),CU (fun s:Screen=>s.On) w.Screens 0 [] (fun k r s hs=>by unfold oP; rw [iE _ _ (by simp; omega)]; rfl) (by simp; omega),hSR]; rfl
  rw [bW (by omega),CU (fun p:Piece=>p.On) _ 0 [] (fun k r s hs=>by unfold nD; rw [iE _ _ (by simp; omega)]; rfl) (by simp only [List.length_nil,Nat.zero_add]; omega)]
  simp only [List.nil_append,Option.bind_some,thenC]
  rw [hlit,hQR,Option.bind_some,b1,Option.bind_some,hArea]; rfl
 have hbp:∀ p∈P,-400000000≤(sc p).On.W * (sc p).On.H∧(sc p).On.W * (sc p).On.H≤400000000:=fun p h=>by
  have:=hsi p h
  have:=Aj (a:=(sc p).On.W) (b:=(sc p).On.H) (c:=20000) (d:=20000) (by omega) (by omega) (by omega) (by omega)
  omega
 have hbv:∀ v∈V,-400000000≤v.On.W * v.On.H∧v.On.W * v.On.H≤400000000:=fun v h=>by
  rw [← hVV]at h
  obtain ⟨s,h1,h2⟩:=List.mem_flatMap.1 h
  obtain ⟨q,h3,h4⟩:=List.mem_flatMap.1 h2
  obtain ⟨p,h5,rfl⟩:=List.mem_map.1 h3
  have hi:=hsi p h5
  have hb:=hsB s h1
  unfold ic dB at h4
  unfold Bnd at hb
  cases hc:decide (min (s.On.X + s.On.W) ((sc p).On.X + (sc p).On.W) - max s.On.X (sc p).On.X≤0) || decide (min (s.On.Y + s.On.H) ((sc p).On.Y + (sc p).On.H) - max s.On.Y (sc p).On.Y≤0)with
  | true=>rw [hc]at h4; cases h4
  | false =>
   rw [hc]at h4
   simp only [cond_false,cond_true,List.mem_singleton]at h4
   simp only [Bool.or_eq_false_iff,decide_eq_false_iff_not]at hc
   subst h4
   have:=Aj (a:=min (s.On.X + s.On.W) ((sc p).On.X + (sc p).On.W) - max s.On.X (sc p).On.X) (b:=min (s.On.Y + s.On.H) ((sc p).On.Y + (sc p).On.H) - max s.On.Y (sc p).On.Y) (c:=20000) (d:=20000) (by omega) (by omega) (by omega) (by omega)
   simp only
   omega
 have hS2:fI (fun p=>(sc p).On.W * (sc p).On.H) P=SS (-100000) n (fun x y=>gZ SPR x y):=by
  rw [kT (g:=fun p=>SS (-100000) n (ind (sc p).On)) (fun p h=>(Hz (hsb p h) n hn).symm),y9]
  refine sG (fun x y => ?_)
  rw [hSPR]; unfold gZ
  rw [qP,qP]
 have hS3:fI (fun v:View=>v.On.W * v.On.H) V=SS (-100000) n (fun x y=>gZ SR x y * gZ SPR x y):=by
  rw [← hVV,zX]
  rw [kT (g:=fun s:Screen=>SS (-100000) n (fun x y=>ind s.On x y * gZ SPR x y)) (fun s h=>by
   rw [zX,kT (g:=fun q:Piece=>SS (-100000) n (fun x y=>ind s.On x y * ind q.On x y)) (fun q hq=>by
    rw [Lv,← Hz (EZ (hsB s h) (hsb' q hq)) n hn]
    exact sG (fun x y=>Mi _ _ x y)),y9]
   refine sG (fun x y => ?_)
   rw [yF,hSPR]; unfold gZ
   simp only [qP]),y9]
  refine sG (fun x y => ?_)
  rw [kT (g:=fun s:Screen=>gZ SPR x y * ind s.On x y) (fun s _=>Int.mul_comm _ _),yF,hSR,Int.mul_comm]
  unfold gZ
  rw [qP]
 refine⟨P,sc,V,ED (fG bs),hV1,hL1,r2,r4,by omega,fun p h=>⟨?_,hbp p h⟩,fun v h=>⟨hvf v h,hbv v h⟩,hpair,?_,?_⟩
 ·obtain ⟨⟨f1,f2,f3,f4⟩,i⟩:=hpin p h
  rw [hsOn]
  exact J2 (by omega) (by omega) hLW hLH hwW hwH
 ·rw [hA]
  exact SS_bnd (fun x y=>P01_bnd _) n hn
 ·rw [hA,hS2,hS3,← Nb]
  exact sG (fun x y=>by rw [lost_eq SR SPR hS1 hP1 x y]; omega)
theorem zo {w:Wall}:∀ (l:List Screen) (last:ByteArray),chk (fun s:Screen=>s.Key) (Ae w) last l=0→(∀ s∈l,lt last s.Key)∧l.Pairwise (fun a b=>lt a.Key b.Key)
 | [],_,_=>⟨fun z hz=>(by cases hz),List.Pairwise.nil⟩
 | x::l,last,h=>by
  rw [chk]at h
  cases he:Ae w last x == 0 with
  | false=>rw [he,cond_false]at h; rw [h]at he; cases he
  | true =>
   rw [he,cond_true]at h
   obtain ⟨i1,i2⟩:=zo l _ h
   have he:=eq_of_beq he
   have hx:lt last x.Key:=by
    unfold Ae at he
    cases hk:nT x.Key with
    | false=>rw [hk]at he; cases he
    | true =>
     cases hb:tN x.On with
     | true=>rw [hk,hb]at he; cases he
     | false =>
      cases hi:tH x.On w.W w.H with
      | false=>rw [hk,hb,hi]at he; cases he
      | true =>
       cases hl:sLe x.Key last with
       | true=>rw [hk,hb,hi,hl]at he; cases he
       | false =>
        have:=BV x.Key last
        rw [hl]at this
        simp only [Bool.false_eq_true,false_iff,Classical.not_not]at this
        exact this
   refine⟨fun z hz => ?_,List.pairwise_cons.2 ⟨fun z hz=>i1 z hz,i2⟩⟩
   rcases List.mem_cons.1 hz with rfl | hz
   ·exact hx
   ·exact lt_trans hx (i1 z hz)
theorem Ff (V:List View) (e:Int) (hf:∀ v∈V,fq v.On ∧ -400000000≤v.On.W * v.On.H∧v.On.W * v.On.H≤400000000) (hp:V.Pairwise (fun u v=>u.Screen=v.Screen→(dB v.On u.On).2=false)) (hl:V.length≤2000):∀ (l:List View) (k:Nat) (s:Int),V.drop k=l → -1000000000000000000≤s - 400000000 * l.length→s + 400000000 * l.length≤1000000000000000000 →
  forR (fun k x s=>fo (V,e) k x s) l k s=some (.go (s + fI (fun v:View=>v.On.W * v.On.H) l))
 | [],k,s,_,_,_=>by simp [forR,fI]
 | x::l,k,s,hd,h1,h2=>by
  have hg:=nM hd
  have hk:=oQ hd
  obtain ⟨hx,b1,b2⟩:=hf x (List.mem_of_getElem? hg)
  simp only [List.length_cons]at h1 h2
  have hin:∀ (t:List View) (j:Nat),(V.take k).drop j=t→forR (fun k x' s=>fe x k x' s) t j ()=some (.go ()):=by
   intro t
   induction t with
   | nil=>exact fun _ _=>rfl
   | cons q t ih =>
    intro j hj
    have hq:=nM hj
    have hjk:j < k:=by
     have:=oQ hj
     rw [List.length_take]at this; omega
    rw [List.getElem?_take_of_lt hjk]at hq
    have hb:fe x j q ()=some (.go ()):=by
     unfold fe
     rw [LU hx (hf q (List.mem_of_getElem? hq)).1,Option.bind_some]
     simp only [bne_self_eq_false,cond_false]
     have hpq:=(List.pairwise_iff_getElem.1 hp) j k (by omega) hk hjk
     rw [List.getElem?_eq_getElem (by omega)]at hq
     rw [List.getElem?_eq_getElem hk]at hg
     rw [Option.some.inj hq,Option.some.inj hg]at hpq
     cases hm:(dB x.On q.On).2 with
     | false=>rfl
     | true =>
      have:sEq x.Screen q.Screen=false:=by
       rw [Kh,decide_eq_false]
       intro e
       have:=hpq e.symm
       rw [hm]at this; cases this
      rw [this]; rfl
    rw [forR,hb,Option.bind_some]
    exact ih (j + 1) (aN hj)
  have hsub:zf V 0 (k:Int)=some (V.take k):=by
   unfold zf
   rw [if_pos ⟨by omega,by omega,by simp,by simp; omega⟩]
   simp
  have hB:fo (V,e) k x s=some (.go (s + x.On.W * x.On.H)):=by
   unfold fo
   simp only
   rw [hsub,Option.bind_some,bW (by rw [List.length_take]; omega),hin (V.take k) 0 rfl,bz (n:=x.On.W * x.On.H) (by omega),bz (n:=s + x.On.W * x.On.H) (by omega)]
   rfl
  rw [forR,hB,Option.bind_some]
  simp only
  rw [Ff V e hf hp hl l (k + 1) _ (aN hd) (by omega) (by omega),fI,Int.add_assoc]
theorem viewsAreApart (l:List Int):ko l=some true:=by
 unfold ko
 have h0:Ok (⟨l,0⟩:Stream) 0:=⟨Int.le_refl _,Int.le_refl _⟩
 obtain ⟨w,s1,a1,a2,a3,a4,a5,a6,a7⟩:=Jb _ h0 (by decide)
 obtain ⟨L,s2,b1,b2,b3,b4,b5,b6,b7,b8⟩:=GV s1 a7 (by decide)
 obtain ⟨wf,_⟩:=JA a2 a3 a4
 obtain ⟨e,w1,w2,w3⟩:=G5 w a3.1 a3.2 (by omega)
 rw [a2]at w1
 obtain ⟨_,_,hc,hpw⟩:=w3 (Option.some.inj w1).symm
 obtain ⟨hz,hp⟩:=I1 L.Zones uA b7
 obtain ⟨P,sc,V,n,v1,v2,v3,v4,v5,v6,v7,v8,v9,v10⟩:=showP w L (by omega) (by omega) a2 b2 (by omega) (by omega) (by omega) (by omega) (fun s hs=>(wf s hs).1) (fun s hs=>(wf s hs).2) hpw (fun z h=>⟨(hz z h).1,(hz z h).2.1,(hz z h).2.2.1⟩) hp (zo w.Screens uA hc).2
 have hS:pF L=some (P,0):=by
  unfold pF
  rw [b2,Option.bind_some,bne_self_eq_false,cond_false,v3]; rfl
 have hvl:=Ff V 0 v7 v8 (by omega) V 0 n rfl (by omega) (by omega)
 obtain ⟨q1,q2,q3⟩:=zI (fun p=>(sc p).On.W * (sc p).On.H) 400000000 (by omega) (body:=fun k x s=>gz (L,s2) (w,s1) k x s) P 0 0 (fun k p s h=>by
  unfold gz
  rw [(v6 p h).1]; rfl) (fun p h=>(v6 p h).2) (by omega) (by omega) (by omega)
 have herr:qz [0,0,0]=some 0:=rfl
 simp only [a1,b1,v1,v2,hS,herr,Option.bind_some,bne_self_eq_false,cond_false]
 rw [bW (by omega),hvl]
 simp only [Option.bind_some,thenC]
 rw [bW (by omega),q1]
 simp only [Option.bind_some,thenC]
 rw [v10,Int.zero_add,beq_self_eq_true,decide_eq_true (show n≥0 by omega)]
 simp only [cond_true,NK,Option.bind_some]
end Go.Proofs.YtjhcehhmdmbleaaGreatDoor.Law

