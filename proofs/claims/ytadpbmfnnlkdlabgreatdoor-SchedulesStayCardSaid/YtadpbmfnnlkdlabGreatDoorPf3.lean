/-
 The machine computes these plain functions (written by a program of ours).
-/
import Derived.Test.YtadpbmfnnlkdlabGreatDoorFacts
import Derived.Test.YtadpbmfnnlkdlabGreatDoorDefs
import Derived.Test.YtadpbmfnnlkdlabGreatDoorPf2
import Derived.Test.YtadpbmfnnlkdlabGreatDoorShelf
open Go Go.Eng Go.Proofs
namespace Go.Proofs.YtadpbmfnnlkdlabGreatDoor.Law
set_option maxRecDepth 100000
set_option linter.unusedVariables false
set_option maxHeartbeats 1000000
theorem nZ {c:(List ByteArray)} {f:ByteArray} {r:Int×Bool} (h:dN c f=some r) :
  FnM Tryz.prog 122 [(vL eS c),(vS f)] [] (.tup [(vI r.1),(vB r.2)]) []:=by
 refine FnM.of_wH ⟨Tryz.prog,54,[],[]⟩ rfl Tryz.func122 rfl rfl (lb_ rfl) (by kernel_rfl) ?_
 unfold dN at h
 refine aj (aa (vI 0) (aa (vB false) (ah (aj (aa (vL eS c) (bS yz rfl wz (aa (vI (c.length:Int)) (ah (aj (aa (vI (c.length:Int)) (aa (vI 0) (aa (vI (c.length:Int)) (ah (au ?_))))))))))))))
 obtain ⟨H,p,h⟩:=bind_some h
 obtain ⟨G,p⟩:=dJ p
 refine gq (λ(a:Int×Int)=>[(0,(vL eS c)),(1,(vS f)),(6,(vI (c.length:Int))),(7,(vI a.1))]) (λ(a:Int×Int)=>[]) (λ(i:Nat)=>(λ(a:Int×Int)=>[(0,(vL eS c)),(1,(vS f)),(6,(vI (c.length:Int))),(7,(vI a.1)),(8,(vI a.2))])) (λs=>bg c f s) H G (0,(c.length:Int)) p rfl (aI rfl) ?_ ?_
 ·rintro ⟨i,a⟩ g
  dsimp only at g
  cases i with
  | zero=>cases g
  | succ i =>
   obtain ⟨L,d,g⟩:=bind_some g
   unfold bg at d
   refine au (aj (aa (vI a.1) (aa (vI a.2) (aa (vB (decide (a.1<a.2))) (ah ?_)))))
   rcases ak d with⟨k,d⟩|⟨k,d⟩
   ·refine aB rfl k (ax (aM (aj (aa (vI a.1) (aa (vI a.2) (aa (vI (w64 (a.1+a.2))) (oO un3 KN rfl wz ?_)))))))
    obtain ⟨e,F,d⟩:=bind_some d
    refine Lj rfl rfl F wz (oO KN un3 rfl wz (aa (vI (w64 e)) (ah (aj (aa (vL eS c) (aa (vI (w64 e)) ?_))))))
    obtain ⟨J,B,d⟩:=bind_some d
    refine dR qW rfl rfl B rfl wz (bN sz9 ag9 rfl (vS J) rfl wz (aa (vS f) ?_))
    obtain ⟨M,y,d⟩:=bind_some d
    refine aF (BI y) rfl hb117 rfl rfl rfl rfl wz (ah ?_)
    rcases ak d with⟨l,d⟩|⟨l,d⟩
    ·refine aB rfl l (av (aa (vI (w64 e)) (aa (vI (w64 ((w64 e)+1))) (aa (vI (w64 ((w64 e)+1))) (ah ?_)))))
     obtain rfl:=af d
     exact aU (i,((w64 ((w64 e)+1)),a.2)) g (ls_ _) rfl (aI rfl)
    ·refine aA rfl l (av (aa (vI (w64 e)) (aa (vI (w64 e)) (ah ?_))))
     obtain rfl:=af d
     exact aU (i,(a.1,(w64 e))) g (ls_ _) rfl (aI rfl)
   ·refine aA rfl k (aS ?_)
    obtain rfl:=af d
    obtain rfl:=af g
    exact aV ((a.1,a.2)) rfl rfl (aI rfl)
 ·rintro a x I w q t
  subst x
  refine aN _ q t (au ?_)
  obtain ⟨u,b,h⟩:=bind_some h
  refine aP [(4,(vI a.1)),(5,(vB u))] [] ?_ ?_
  ·refine av (aa (vI a.1) (aa (vI a.1) (aa (vI (c.length:Int)) (aa (vB (decide (a.1<(c.length:Int)))) ?_))))
   rcases ak b with⟨m,b⟩|⟨m,b⟩
   ·refine aD rfl m wz (aK (vL eS c) wa rfl (aK (vI a.1) wa rfl ?_))
    obtain ⟨v,C,b⟩:=bind_some b
    refine dR qW rfl rfl C rfl wa (bN sz9 ag9 rfl (vS v) rfl wa (aK (vS f) wa rfl (aK (vB (sEq v f)) wa rfl ?_)))
    rcases ak b with⟨n,b⟩|⟨n,b⟩
    ·refine aD rfl n wa (ae (ae (ae (ae (ae (ae (dw (wn rfl rfl) (dw (wn rfl rfl) (ae (aK (vB true) wa rfl (aa (vB true) (aa (vI a.1) (aa (vB true) (ah ?_))))))))))))))
     obtain rfl:=af b
     exact cu
    ·refine aD rfl n wa (aK (vL eS c) wa rfl (aK (vI a.1) wa rfl ?_))
     obtain ⟨K,E,b⟩:=bind_some b
     refine dR qW rfl rfl E rfl wa (bN sz9 ag9 rfl (vS K) rfl wa ?_)
     obtain ⟨N,z,b⟩:=bind_some b
     refine aF (qb z) rfl hb150 rfl rfl rfl rfl wa ?_
     rcases ak b with⟨o,b⟩|⟨o,b⟩
     ·refine aD rfl o wa (aK (vS f) wa rfl ?_)
      obtain ⟨j,A,b⟩:=bind_some b
      refine aF (qb A) rfl hb150 rfl rfl rfl rfl wa (aK (vB j) wa rfl (aK (vB j) wa rfl (aa (vB j) (aa (vI a.1) (aa (vB j) (ah ?_))))))
      obtain rfl:=af b
      exact cu
     ·refine aD rfl o wa (ae (ae (aK (vB false) wa rfl (aK (vB false) wa rfl (aa (vB false) (aa (vI a.1) (aa (vB false) (ah ?_))))))))
      obtain rfl:=af b
      exact cu
   ·refine aD rfl m wz (ae (ae (ae (ae (ae (ae (ae (dw (wn rfl rfl) (dw (wn rfl rfl) (dw (wn rfl rfl) (dw (wn rfl rfl) (dw (wn rfl rfl) (dw (wn rfl rfl) (dw (wn rfl rfl) (dw (wn rfl rfl) (dw (wn rfl rfl) (ae (aa (vB false) (aa (vI a.1) (aa (vB false) (ah ?_)))))))))))))))))))))
    obtain rfl:=af b
    exact cu
  ·rintro ⟨⟩ _ I w q t
   refine aN _ q t ?_
   obtain rfl:=af h
   exact aC (aL [(vI a.1),(vB u)] ⟨rfl,⟨rfl,trivial⟩⟩)
theorem wU {a:Entry} {h:Player} {r:Bool} (i:oL a h=some r) :
  FnM Tryz.prog 81 [(.d (.agg (Entry.enc a))),(.d (.agg (Player.enc h)))] [] (vB r) []:=by
 refine FnM.of_wH ⟨Tryz.prog,26,[],[]⟩ rfl Tryz.func81 rfl rfl (lb_ rfl) (by kernel_rfl) ?_
 unfold oL at i
 refine aj (dQ 0 (.inl rfl) (Entry.v a) rfl rfl wz (λz=>dQ 0 (.inl rfl) (Player.v h) rfl rfl wz (λp=>aa (vB false) (ah (au (aj (aH mI rfl 11 rfl wz (ay 0 0 il ft tV xn rfl rfl (vL eS a.Tags) rfl wz (bS yz rfl wz (aa (vI 0) (ah ?_)))))))))))
 obtain ⟨A,m,i⟩:=bind_some i
 obtain ⟨q,m⟩:=aW m
 refine cz (λ(j:Unit)=>[]) (λ(j:Unit)=>[(z,some (.cells 13 (Entry.v a))),(p,some (.cells 4 (Player.v h)))]) (λ(g:Nat)=>(λ(j:Unit)=>[(3,(.ref p 0 0)),(10,(vL eS a.Tags)),(11,(vI (a.Tags.length:Int))),(12,(vI (g:Int)))])) (λk x s=>jC h k x s) A a.Tags () m rfl (aI rfl) ?_ ?_
 ·rintro ⟨g,n,j⟩ ⟨f,e⟩
  dsimp only at f e
  cases n with
  | nil =>
   obtain rfl:=af f
   refine aj (aa (vB (decide ((g:Int)<(a.Tags.length:Int)))) (ah ?_))
   refine au (aA rfl (drop_nil e) (aS ?_))
   exact aV (j) rfl rfl (aI rfl)
  | cons o n =>
   obtain ⟨C,b,f⟩:=bind_some f
   refine aj (aa (vB (decide ((g:Int)<(a.Tags.length:Int)))) (ah ?_))
   refine au (aB rfl (bv e) (ax ?_))
   unfold jC at b
   refine au (aM (aj (dR qW rfl rfl (bJ e) rfl wz (bN sz9 ag9 rfl (vS o) rfl wz (aa (vS o) (ah (aj (aH JK rfl 3 rfl wz (ay 0 1 il ft tV xn rfl rfl (vL eS h.Tags) rfl wz (aa (vS o) ?_))))))))))
   obtain ⟨c,y,b⟩:=bind_some b
   refine aF (nZ y) rfl hb122 rfl rfl rfl rfl wz (aa (.tup [(vI c.1),(vB c.2)]) (aa (vI c.1) (aa (vB c.2) (aa (vI c.1) (aa (vB c.2) (ah (aj (aa (vB c.2) (aa (vB (!c.2)) (ah ?_))))))))))
   rcases ak b with⟨l,b⟩|⟨l,b⟩
   ·refine aB rfl l (aj (aa (vB false) (ah ?_)))
    obtain rfl:=af b
    obtain rfl:=af f
    obtain rfl:=af i
    exact aC (aL [(vB false)] ⟨rfl,trivial⟩)
   ·refine aA rfl l (ax (av (dX (bD e q) wz rfl (aa (vI ((g+1:Nat):Int)) (ah ?_)))))
    obtain rfl:=af b
    exact aU (g+1,n,()) ⟨f,aQ e⟩ (ls_ _) rfl (aI rfl)
 ·rintro j t E B u w
  subst t
  refine aN _ u w (aj (aa (vB true) (ah ?_)))
  obtain rfl:=af i
  exact aC (aL [(vB true)] ⟨rfl,trivial⟩)
section
variable [dM:DM]
theorem nV {a:Int} {r:Bool} (b:cmp_isNaN_int a=some r) :
  FnM Tryz.prog 85 [(vI a)] [] (vB r) []:=by
 refine FnM.of_wH ⟨Tryz.prog,6,[],[]⟩ rfl Tryz.func85 rfl rfl (lb_ rfl) (by kernel_rfl) ?_
 unfold cmp_isNaN_int at b
 refine aj (aa (vB false) (ah (aj (aa (vI a) (aa (vI a) (aa (vB (a != a)) (aa (vB (a != a)) (ah ?_))))))))
 obtain rfl:=af b
 exact aC (aL [(vB (a != a))] ⟨rfl,trivial⟩)
end
theorem Ex {b:Int} {c:Int} {r:Bool} (d:cmp_Less_int b c=some r) :
  FnM Tryz.prog 161 [(vI b),(vI c)] [] (vB r) []:=by
 refine FnM.of_wH ⟨Tryz.prog,17,[],[]⟩ rfl Tryz.func161 rfl rfl (lb_ rfl) (by kernel_rfl) ?_
 unfold cmp_Less_int at d
 refine aj (aa (vB false) (ah (au ?_)))
 obtain ⟨h,a,d⟩:=bind_some d
 refine aP [(4,(vB h))] [] ?_ ?_
 ·refine av (aa (vI b) ?_)
  obtain ⟨n,k,a⟩:=bind_some a
  refine aF (nV k) rfl hb85 rfl rfl rfl rfl wz ?_
  rcases ak a with⟨f,a⟩|⟨f,a⟩
  ·refine aD rfl f wz (aK (vI c) wa rfl ?_)
   obtain ⟨g,l,a⟩:=bind_some a
   refine aF (nV l) rfl hb85 rfl rfl rfl rfl wa (aK (vB (!g)) wa rfl (aa (vB (!g)) ?_))
   rcases ak a with⟨e,a⟩|⟨e,a⟩
   ·refine aD rfl e wz (ae (ae (ae (aa (vB true) (aa (vB true) (ah ?_))))))
    obtain rfl:=af a
    exact cu
   ·refine aD rfl e wz (aK (vI b) wa rfl (aK (vI c) wa rfl (aK (vB (decide (b<c))) wa rfl (aa (vB (decide (b<c))) (aa (vB (decide (b<c))) (ah ?_))))))
    obtain rfl:=af a
    exact cu
  ·refine aD rfl f wz (ae (ae (ae (aa (vB false) (aa (vB false) (aK (vI b) wa rfl (aK (vI c) wa rfl (aK (vB (decide (b<c))) wa rfl (aa (vB (decide (b<c))) (aa (vB (decide (b<c))) (ah ?_)))))))))))
   obtain rfl:=af a
   exact cu
 ·rintro ⟨⟩ _ o m i j
  refine aN _ i j ?_
  obtain rfl:=af d
  exact aC (aL [(vB h)] ⟨rfl,trivial⟩)
theorem sW {a:Int} {r:Bool} (b:gU a=some r) :
  FnM Tryz.prog 171 [(vI a)] [] (vB r) []:=by
 refine FnM.of_wH ⟨Tryz.prog,6,[],[]⟩ rfl Tryz.func171 rfl rfl (lb_ rfl) (by kernel_rfl) ?_
 unfold gU at b
 refine aj (aa (vB false) (ah (aj (aa (vI a) (aa (vI a) (aa (vB (a != a)) (aa (vB (a != a)) (ah ?_))))))))
 obtain rfl:=af b
 exact aC (aL [(vB (a != a))] ⟨rfl,trivial⟩)
theorem qP {c:(List Int)} {f:Int} {r:Int×Bool} (h:dC c f=some r) :
  FnM Tryz.prog 139 [(vL eI c),(vI f)] [] (.tup [(vI r.1),(vB r.2)]) []:=by
 refine FnM.of_wH ⟨Tryz.prog,54,[],[]⟩ rfl Tryz.func139 rfl rfl (lb_ rfl) (by kernel_rfl) ?_
 unfold dC at h
 refine aj (aa (vI 0) (aa (vB false) (ah (aj (aa (vL eI c) (bS sN rfl wz (aa (vI (c.length:Int)) (ah (aj (aa (vI (c.length:Int)) (aa (vI 0) (aa (vI (c.length:Int)) (ah (au ?_))))))))))))))
 obtain ⟨H,p,h⟩:=bind_some h
 obtain ⟨G,p⟩:=dJ p
 refine gq (λ(a:Int×Int)=>[(0,(vL eI c)),(1,(vI f)),(6,(vI (c.length:Int))),(7,(vI a.1))]) (λ(a:Int×Int)=>[]) (λ(i:Nat)=>(λ(a:Int×Int)=>[(0,(vL eI c)),(1,(vI f)),(6,(vI (c.length:Int))),(7,(vI a.1)),(8,(vI a.2))])) (λs=>bB c f s) H G (0,(c.length:Int)) p rfl (aI rfl) ?_ ?_
 ·rintro ⟨i,a⟩ g
  dsimp only at g
  cases i with
  | zero=>cases g
  | succ i =>
   obtain ⟨L,d,g⟩:=bind_some g
   unfold bB at d
   refine au (aj (aa (vI a.1) (aa (vI a.2) (aa (vB (decide (a.1<a.2))) (ah ?_)))))
   rcases ak d with⟨k,d⟩|⟨k,d⟩
   ·refine aB rfl k (ax (aM (aj (aa (vI a.1) (aa (vI a.2) (aa (vI (w64 (a.1+a.2))) (oO un3 KN rfl wz ?_)))))))
    obtain ⟨e,F,d⟩:=bind_some d
    refine Lj rfl rfl F wz (oO KN un3 rfl wz (aa (vI (w64 e)) (ah (aj (aa (vL eI c) (aa (vI (w64 e)) ?_))))))
    obtain ⟨J,B,d⟩:=bind_some d
    refine dR ko rfl rfl B rfl wz (bN sz3 ag3 rfl (vI J) rfl wz (aa (vI f) ?_))
    obtain ⟨M,y,d⟩:=bind_some d
    refine aF (Ex y) rfl hb161 rfl rfl rfl rfl wz (ah ?_)
    rcases ak d with⟨l,d⟩|⟨l,d⟩
    ·refine aB rfl l (av (aa (vI (w64 e)) (aa (vI (w64 ((w64 e)+1))) (aa (vI (w64 ((w64 e)+1))) (ah ?_)))))
     obtain rfl:=af d
     exact aU (i,((w64 ((w64 e)+1)),a.2)) g (ls_ _) rfl (aI rfl)
    ·refine aA rfl l (av (aa (vI (w64 e)) (aa (vI (w64 e)) (ah ?_))))
     obtain rfl:=af d
     exact aU (i,(a.1,(w64 e))) g (ls_ _) rfl (aI rfl)
   ·refine aA rfl k (aS ?_)
    obtain rfl:=af d
    obtain rfl:=af g
    exact aV ((a.1,a.2)) rfl rfl (aI rfl)
 ·rintro a x I w q t
  subst x
  refine aN _ q t (au ?_)
  obtain ⟨u,b,h⟩:=bind_some h
  refine aP [(4,(vI a.1)),(5,(vB u))] [] ?_ ?_
  ·refine av (aa (vI a.1) (aa (vI a.1) (aa (vI (c.length:Int)) (aa (vB (decide (a.1<(c.length:Int)))) ?_))))
   rcases ak b with⟨m,b⟩|⟨m,b⟩
   ·refine aD rfl m wz (aK (vL eI c) wa rfl (aK (vI a.1) wa rfl ?_))
    obtain ⟨v,C,b⟩:=bind_some b
    refine dR ko rfl rfl C rfl wa (bN sz3 ag3 rfl (vI v) rfl wa (aK (vI f) wa rfl (aK (vB (v==f)) wa rfl ?_)))
    rcases ak b with⟨n,b⟩|⟨n,b⟩
    ·refine aD rfl n wa (ae (ae (ae (ae (ae (ae (dw (wn rfl rfl) (dw (wn rfl rfl) (ae (aK (vB true) wa rfl (aa (vB true) (aa (vI a.1) (aa (vB true) (ah ?_))))))))))))))
     obtain rfl:=af b
     exact cu
    ·refine aD rfl n wa (aK (vL eI c) wa rfl (aK (vI a.1) wa rfl ?_))
     obtain ⟨K,E,b⟩:=bind_some b
     refine dR ko rfl rfl E rfl wa (bN sz3 ag3 rfl (vI K) rfl wa ?_)
     obtain ⟨N,z,b⟩:=bind_some b
     refine aF (sW z) rfl hb171 rfl rfl rfl rfl wa ?_
     rcases ak b with⟨o,b⟩|⟨o,b⟩
     ·refine aD rfl o wa (aK (vI f) wa rfl ?_)
      obtain ⟨j,A,b⟩:=bind_some b
      refine aF (sW A) rfl hb171 rfl rfl rfl rfl wa (aK (vB j) wa rfl (aK (vB j) wa rfl (aa (vB j) (aa (vI a.1) (aa (vB j) (ah ?_))))))
      obtain rfl:=af b
      exact cu
     ·refine aD rfl o wa (ae (ae (aK (vB false) wa rfl (aK (vB false) wa rfl (aa (vB false) (aa (vI a.1) (aa (vB false) (ah ?_))))))))
      obtain rfl:=af b
      exact cu
   ·refine aD rfl m wz (ae (ae (ae (ae (ae (ae (ae (dw (wn rfl rfl) (dw (wn rfl rfl) (dw (wn rfl rfl) (dw (wn rfl rfl) (dw (wn rfl rfl) (dw (wn rfl rfl) (dw (wn rfl rfl) (dw (wn rfl rfl) (dw (wn rfl rfl) (ae (aa (vB false) (aa (vI a.1) (aa (vB false) (ah ?_)))))))))))))))))))))
    obtain rfl:=af b
    exact cu
  ·rintro ⟨⟩ _ I w q t
   refine aN _ q t ?_
   obtain rfl:=af h
   exact aC (aL [(vI a.1),(vB u)] ⟨rfl,⟨rfl,trivial⟩⟩)
theorem vH {b:Entry} {f:Int} {r:Bool} (c:jJ b f=some r) :
  FnM Tryz.prog 98 [(.d (.agg (Entry.enc b))),(vI f)] [] (vB r) []:=by
 refine FnM.of_wH ⟨Tryz.prog,41,[],[]⟩ rfl Tryz.func98 rfl rfl (lb_ rfl) (by kernel_rfl) ?_
 unfold jJ at c
 refine aj (dQ 0 (.inl rfl) (Entry.v b) rfl rfl wz (λk=>aa (vB false) (ah (au (au ?_)))))
 obtain ⟨t,a,c⟩:=bind_some c
 refine aP [(1,(vI f)),(2,(.ref k 0 0)),(31,(vB t))] [(k,some (.cells 13 (Entry.v b)))] ?_ ?_
 ·refine bI (aa (vI f) (aH yf rfl 3 rfl wz (ay 2 0 (.inr (by kernel_rfl)) (λ_ _ ag=>trivial) sz3 ag3 rfl rfl (vI b.First) rfl wz (aH xM rfl 4 rfl wz (ay 4 0 (.inr (by kernel_rfl)) (λ_ _ ag=>⟨.inl ⟨rfl,rfl⟩,trivial⟩) sz3 ag3 rfl rfl (vI b.Last) rfl wz ?_)))))
  obtain ⟨w,p,a⟩:=bind_some a
  refine aF (bH p) rfl tT rfl rfl rfl rfl wz ?_
  rcases ak a with⟨i,a⟩|⟨i,a⟩
  ·refine aD rfl i wz (ae (ae (ae (ae (ae (ae (ae (ae (aa (vB true) (aa (vB true) (ae (ae (ae (ae (ae (ae (ae (aa (vB true) (ah ?_)))))))))))))))))))
   obtain rfl:=af a
   exact cu
  ·refine aD rfl i wz (aK (vI f) wa rfl (aH yf rfl 3 rfl wa (ay 9 0 (.inr (by kernel_rfl)) (λ_ _ ag=>⟨.inl ⟨rfl,rfl⟩,⟨.inl ⟨rfl,rfl⟩,trivial⟩⟩) sz3 ag3 rfl rfl (vI b.First) rfl wa (aK (vI (w64 (f-b.First))) wa rfl (aH G9 rfl 5 rfl wa (ay 12 0 (.inr (by kernel_rfl)) (λ_ _ ag=>⟨.inl ⟨rfl,rfl⟩,⟨.inl ⟨rfl,rfl⟩,⟨.inl ⟨rfl,rfl⟩,trivial⟩⟩⟩) sz3 ag3 rfl rfl (vI b.Every) rfl wa ?_))))))
   obtain ⟨l,q,a⟩:=bind_some a
   refine QK rfl rfl q wa (aK (vB (l != 0)) wa rfl (aa (vB (l != 0)) ?_))
   rcases ak a with⟨g,a⟩|⟨g,a⟩
   ·refine aD rfl g wz (ae (ae (ae (ae (ae (ae (ae (aa (vB true) (ah ?_)))))))))
    obtain rfl:=af a
    exact cu
   ·refine aD rfl g wz (aH Gs rfl 6 rfl wa (ay 18 0 (.inr (by kernel_rfl)) (λ_ _ ag=>⟨.inl ⟨rfl,rfl⟩,⟨.inl ⟨rfl,rfl⟩,⟨.inl ⟨rfl,rfl⟩,⟨.inl ⟨rfl,rfl⟩,trivial⟩⟩⟩⟩) sz3 ag3 rfl rfl (vI b.Days) rfl wa (aK (vI f) wa rfl (aK (vI (f.tmod 7)) wa rfl ?_))))
    obtain ⟨j,s,a⟩:=bind_some a
    refine En rfl rfl s wa (aK (vI (rH .i64 b.Days j)) wa rfl (aK (vB ((rH .i64 b.Days j)==0)) wa rfl (aa (vB ((rH .i64 b.Days j)==0)) (ah ?_))))
    obtain rfl:=af a
    exact cu
 ·rintro ⟨⟩ _ x u m n
  refine aN _ m n ?_
  rcases ak c with⟨h,c⟩|⟨h,c⟩
  ·refine aB rfl h (aj (aa (vB false) (ah ?_)))
   obtain rfl:=af c
   exact aC (aL [(vB false)] ⟨rfl,trivial⟩)
  ·refine aA rfl h (ax (aj (aH pU rfl 7 rfl wz (ay 0 0 il ft sF xE rfl rfl (vL eI b.Except) rfl wz (aa (vI f) ?_)))))
   obtain ⟨e,o,c⟩:=bind_some c
   refine aF (qP o) rfl hb139 rfl rfl rfl rfl wz (aa (.tup [(vI e.1),(vB e.2)]) (aa (vI e.1) (aa (vB e.2) (aa (vI e.1) (aa (vB e.2) (ah (aj (aa (vB e.2) (aa (vB (!e.2)) (aa (vB (!e.2)) (ah ?_)))))))))))
   obtain rfl:=af c
   exact aC (aL [(vB (!e.2))] ⟨rfl,trivial⟩)
theorem uL {a:Entry} {c:Int} {b:Int} {r:Window} (g:jU a c b=some r) :
  FnM Tryz.prog 99 [(.d (.agg (Entry.enc a))),(vI c),(vI b)] [] (.d (.agg (Window.enc r))) []:=by
 refine FnM.of_wH ⟨Tryz.prog,32,[],[]⟩ rfl Tryz.func99 rfl rfl (lb_ rfl) (by kernel_rfl) ?_
 unfold jU at g
 refine aj (dQ 0 (.inl rfl) (Entry.v a) rfl rfl wz (λi=>bZ 0 (.inl rfl) z46 rfl wz (λj=>ah (aj (aH F7 rfl 9 rfl wz (ay 0 0 il ft sz3 ag3 rfl rfl (vI a.To) rfl wz (aH Dm rfl 8 rfl wz (ay 0 0 il ft sz3 ag3 rfl rfl (vI a.From) rfl wz (aa (vI (w64 (a.To-a.From))) (aa (vI (w64 (a.To-a.From))) (ah (au (aj (aa (vI (w64 (a.To-a.From))) (aa (vB (decide ((w64 (a.To-a.From))<=0))) (ah ?_))))))))))))))))
 obtain ⟨e,f,g⟩:=bind_some g
 refine aP [(1,(vI c)),(2,(vI b)),(3,(.ref i 0 0)),(6,(.ref j 0 0)),(7,(vI e))] [(i,some (.cells 13 (Entry.v a))),(j,some (.cells 2 [(vI 0),(vI 0)]))] ?_ ?_
 ·rcases ak f with⟨h,f⟩|⟨h,f⟩
  ·refine aB rfl h (av (aa (vI (w64 (a.To-a.From))) (aa (vI (w64 ((w64 (a.To-a.From))+1440))) (aa (vI (w64 ((w64 (a.To-a.From))+1440))) (ah ?_)))))
   obtain rfl:=af f
   exact cu
  ·refine aA rfl h (ax ?_)
   obtain rfl:=af f
   exact cu
 ·rintro ⟨⟩ _ n m k l
  refine aN _ k l (aj (aa (vI b) (aa (vI (w64 (b*1440))) (aH Dm rfl 8 rfl wz (ay 0 0 il ft sz3 ag3 rfl rfl (vI a.From) rfl wz (aa (vI (w64 ((w64 (b*1440))+a.From))) (aa (vI c) (aa (vI (w64 ((w64 ((w64 (b*1440))+a.From))-c))) (aa (vI (w64 ((w64 ((w64 ((w64 (b*1440))+a.From))-c))*60000))) (aa (vI (w64 ((w64 ((w64 ((w64 (b*1440))+a.From))-c))*60000))) (ah (aj (aa (vI (w64 ((w64 ((w64 ((w64 (b*1440))+a.From))-c))*60000))) (aa (vI (w64 ((w64 ((w64 ((w64 (b*1440))+a.From))-c))*60000))) (aa (vI e) (aa (vI (w64 (e*60000))) (aa (vI (w64 ((w64 ((w64 ((w64 ((w64 (b*1440))+a.From))-c))*60000))+(w64 (e*60000))))) (aK (.d (.agg (Window.enc (⟨(w64 ((w64 ((w64 ((w64 (b*1440))+a.From))-c))*60000)),(w64 ((w64 ((w64 ((w64 ((w64 (b*1440))+a.From))-c))*60000))+(w64 (e*60000))))⟩:Window)))) wz (by kernel_rfl) (dY 0 il ft 1 mM rfl rfl [(vI (w64 ((w64 ((w64 ((w64 (b*1440))+a.From))-c))*60000))),(vI (w64 ((w64 ((w64 ((w64 ((w64 (b*1440))+a.From))-c))*60000))+(w64 (e*60000)))))] rfl wz (ah ?_))))))))))))))))))))
  obtain rfl:=af g
  exact aC (aL [(.d (.agg (Window.enc (⟨(w64 ((w64 ((w64 ((w64 (b*1440))+a.From))-c))*60000)),(w64 ((w64 ((w64 ((w64 ((w64 (b*1440))+a.From))-c))*60000))+(w64 (e*60000))))⟩:Window))))] ⟨⟨1,_,_,_,_,_,_,_,rfl,rfl,mM,tK,rfl⟩,trivial⟩)
theorem vw {e:Entry} {c:Int} {a:Window} {r:(List Window)} (j:gG e c a=some r) :
  FnM Tryz.prog 68 [(.d (.agg (Entry.enc e))),(vI c),(.d (.agg (Window.enc a)))] [] (vL Window.enc r) []:=by
 refine FnM.of_wH ⟨Tryz.prog,72,[],[]⟩ rfl Tryz.func68 rfl rfl (lb_ rfl) (by kernel_rfl) ?_
 unfold gG at j
 refine aj (dQ 0 (.inl rfl) (Entry.v e) rfl rfl wz (λk=>dQ 0 (.inl rfl) [(vI a.From),(vI a.To)] rfl rfl wz (λl=>aa .nil (ah (aj (aa .nil (ah (au (au ?_)))))))))
 obtain ⟨Y,u,j⟩:=bind_some j
 refine aP [(1,(vI c)),(3,(.ref k 0 0)),(5,(.ref l 0 0)),(7,.nil),(20,(vB Y))] [(k,some (.cells 13 (Entry.v e))),(l,some (.cells 2 [(vI a.From),(vI a.To)]))] ?_ ?_
 ·refine av (aH CG rfl 12 rfl wz (ay 0 0 il ft sz4 ag4 rfl rfl (vB e.Gone) rfl wz ?_))
  rcases ak u with⟨E,u⟩|⟨E,u⟩
  ·refine aD rfl E wz (ae (ae (ae (ae (ae (aa (vB true) (ah ?_)))))))
   obtain rfl:=af u
   exact cu
  ·refine aD rfl E wz (aH jB rfl 0 rfl wa (ay 0 1 il ft sz3 ag3 rfl rfl (vI a.From) rfl wa (aH kz rfl 1 rfl wa (ay 0 1 il ft sz3 ag3 rfl rfl (vI a.To) rfl wa (aK (vB (decide (a.From>=a.To))) wa rfl (aa (vB (decide (a.From>=a.To))) (ah ?_)))))))
   obtain rfl:=af u
   exact cu
 ·rintro ⟨⟩ _ I y o q
  refine aN _ o q ?_
  rcases ak j with⟨F,j⟩|⟨F,j⟩
  ·refine aB rfl F (aj (aa .nil (ah ?_)))
   obtain rfl:=af j
   exact aC (aL [.nil] ⟨rfl,trivial⟩)
  ·refine aA rfl F (ax (aj (aH jB rfl 0 rfl wz (ay 0 1 il ft sz3 ag3 rfl rfl (vI a.From) rfl wz (aa (vI c) (aa (vI (w64 (c*60000))) (aa (vI (w64 (a.From+(w64 (c*60000))))) (aa (vI (w64 ((w64 (a.From+(w64 (c*60000)))).tdiv 86400000))) (aa (vI (w64 ((w64 ((w64 (a.From+(w64 (c*60000)))).tdiv 86400000))-2))) (aa (vI (w64 ((w64 ((w64 (a.From+(w64 (c*60000)))).tdiv 86400000))-2))) (ah (aj (aH kz rfl 1 rfl wz (ay 0 1 il ft sz3 ag3 rfl rfl (vI a.To) rfl wz (aa (vI c) (aa (vI (w64 (c*60000))) (aa (vI (w64 (a.To+(w64 (c*60000))))) (aa (vI (w64 ((w64 (a.To+(w64 (c*60000)))).tdiv 86400000))) (aa (vI (w64 ((w64 ((w64 (a.To+(w64 (c*60000)))).tdiv 86400000))+1))) (aa (vI (w64 ((w64 ((w64 (a.To+(w64 (c*60000)))).tdiv 86400000))+1))) (ah (au (aj ?_)))))))))))))))))))))))
   refine aa (vI (w64 ((w64 ((w64 (a.From+(w64 (c*60000)))).tdiv 86400000))-2))) (aH yf rfl 3 rfl wz (ay 0 0 il ft sz3 ag3 rfl rfl (vI e.First) rfl wz (si (vI (ol (w64 ((w64 ((w64 (a.From+(w64 (c*60000)))).tdiv 86400000))-2)) e.First)) rfl (.inr rfl) wz (aa (vI (ol (w64 ((w64 ((w64 (a.From+(w64 (c*60000)))).tdiv 86400000))-2)) e.First)) (ah (iO (λR => ?_)))))))
   obtain ⟨U,G,j⟩:=bind_some j
   obtain ⟨T,G⟩:=dJ G
   refine zh (σ:=(List Window)×Int) (N:=Nm) (λp=>(λ(b:(List Window)×Int) (g:Nm)=>([(7,(gV g 2 b.1))]:SL_)) p.1 p.2) (λp=>(λ(b:(List Window)×Int) (g:Nm)=>([(k,some (.cells 13 (Entry.v e))),(l,some (.cells 2 [(vI a.From),(vI a.To)])),(g,gB 2 Window.enc b.1)]:Hp)) p.1 p.2) (λ(w:Nat)=>(λp=>(λ(b:(List Window)×Int) (g:Nm)=>([(1,(vI c)),(3,(.ref k 0 0)),(5,(.ref l 0 0)),(7,(gV g 2 b.1)),(9,(vI (w64 ((w64 ((w64 (a.To+(w64 (c*60000)))).tdiv 86400000))+1)))),(10,(vI b.2))]:SL_)) p.1 p.2)) (λs=>eB a c e s) U T ((([]:List Window),(ol (w64 ((w64 ((w64 (a.From+(w64 (c*60000)))).tdiv 86400000))-2)) e.First)),R) G rfl (aI rfl) ?_ ?_
   ·rintro ⟨w,b,g⟩ m
    dsimp only at m
    cases w with
    | zero=>cases m
    | succ w =>
     obtain ⟨Z,f,m⟩:=bind_some m
     unfold eB at f
     refine au (aj (aa (vI b.2) (aa (vI (w64 ((w64 ((w64 (a.To+(w64 (c*60000)))).tdiv 86400000))+1))) (aH xM rfl 4 rfl wz (ay 0 0 il ft sz3 ag3 rfl rfl (vI e.Last) rfl wz (si (vI (u7 (w64 ((w64 ((w64 (a.To+(w64 (c*60000)))).tdiv 86400000))+1)) e.Last)) rfl (.inl rfl) wz (aa (vB (decide (b.2<=(u7 (w64 ((w64 ((w64 (a.To+(w64 (c*60000)))).tdiv 86400000))+1)) e.Last)))) (ah ?_))))))))
     rcases ak f with⟨z,f⟩|⟨z,f⟩
     ·refine aB rfl z (ax (au (aM (au (aj (ay 0 0 il ft kH qx rfl rfl (.d (.agg (Entry.enc e))) rfl wz (aa (vI b.2) ?_)))))))
      obtain ⟨W,O,f⟩:=bind_some f
      refine aF (vH O) rfl hb98 rfl rfl rfl rfl wz (aa (vB (!W)) (ah ?_))
      rcases ak f with⟨A,f⟩|⟨A,f⟩
      ·refine aB rfl A (aS (av (aa (vI b.2) (aa (vI (w64 (b.2+1))) (aa (vI (w64 (b.2+1))) (ah ?_))))))
       obtain rfl:=af f
       exact aU (w,(b.1,(w64 (b.2+1))),g) m (ls_ _) rfl (aI rfl)
      ·refine aA rfl A (ax (aj (ay 0 0 il ft kH qx rfl rfl (.d (.agg (Entry.enc e))) rfl wz (aa (vI c) (aa (vI b.2) ?_)))))
       obtain ⟨h,P,f⟩:=bind_some f
       refine aF (uL P) rfl hb99 rfl rfl rfl rfl wz (bZ 0 (.inl rfl) z46 rfl wz (λH=>dY 0 il ft 3 mM rfl rfl [(vI h.From),(vI h.To)] rfl wz (ah (au ?_))))
       obtain ⟨X,t,f⟩:=bind_some f
       refine aP [(1,(vI c)),(3,(.ref k 0 0)),(5,(.ref l 0 0)),(7,(gV g 2 b.1)),(9,(vI (w64 ((w64 ((w64 (a.To+(w64 (c*60000)))).tdiv 86400000))+1)))),(10,(vI b.2)),(11,(.ref H 0 0)),(66,(vB X))] [(k,some (.cells 13 (Entry.v e))),(l,some (.cells 2 [(vI a.From),(vI a.To)])),(g,gB 2 Window.enc b.1),(H,some (.cells 2 [(vI h.From),(vI h.To)]))] ?_ ?_
       ·refine av (aH jB rfl 0 rfl wz (ay 0 3 il ft sz3 ag3 rfl rfl (vI h.From) rfl wz (aH kz rfl 1 rfl wz (ay 0 1 il ft sz3 ag3 rfl rfl (vI a.To) rfl wz (aa (vB (decide (h.From<a.To))) ?_)))))
        rcases ak t with⟨B,t⟩|⟨B,t⟩
        ·refine aD rfl B wz (aH kz rfl 1 rfl wa (ay 0 3 il ft sz3 ag3 rfl rfl (vI h.To) rfl wa (aH jB rfl 0 rfl wa (ay 0 1 il ft sz3 ag3 rfl rfl (vI a.From) rfl wa (aK (vB (decide (h.To>a.From))) wa rfl (aa (vB (decide (h.To>a.From))) (ah ?_)))))))
         obtain rfl:=af t
         exact cu
        ·refine aD rfl B wz (ae (ae (ae (ae (ae (aa (vB false) (ah ?_)))))))
         obtain rfl:=af t
         exact cu
       ·rintro ⟨⟩ _ I y o q
        refine aN _ o q ?_
        obtain ⟨J,n,f⟩:=bind_some f
        refine lG (β:=Nm) (λ(x:Nm)=>([(1,(vI c)),(3,(.ref k 0 0)),(5,(.ref l 0 0)),(7,(gV x 2 J)),(9,(vI (w64 ((w64 ((w64 (a.To+(w64 (c*60000)))).tdiv 86400000))+1)))),(10,(vI b.2))]:SL_)) (λ(x:Nm)=>([(k,some (.cells 13 (Entry.v e))),(l,some (.cells 2 [(vI a.From),(vI a.To)])),(x,gB 2 Window.enc J),(H,some (.cells 2 [(vI h.From),(vI h.To)]))]:Hp)) (λ_=>True) ?_ ?_
        ·rcases ak n with⟨C,n⟩|⟨C,n⟩
         ·refine aB rfl C (av (aa (gV g 2 b.1) (ay 0 3 il ft mM tK rfl rfl (.d (.agg (Window.enc h))) rfl wz (eP (([h]:List Window).map Window.enc) OB ez86 rfl rfl rfl rfl rfl wz ?_))))
          obtain ⟨L,Q,n⟩:=bind_some n
          refine kJ 0 il ft (i:=2) el86 el86 mM z46 rfl (by decide) by46 (by decide) (λ_=>rfl) rfl rfl rfl Q wz (λK=>aa (gV K 2 L) (ah ?_))
          obtain rfl:=af n
          exact aV K trivial rfl (aI rfl)
         ·refine aA rfl C (ax ?_)
          obtain rfl:=af n
          exact aV g trivial rfl (aI rfl)
        ·rintro x _ I y o q
         refine aN _ o q (av (aa (vI b.2) (aa (vI (w64 (b.2+1))) (aa (vI (w64 (b.2+1))) (ah ?_)))))
         obtain rfl:=af f
         exact aU (w,(J,(w64 (b.2+1))),x) m (ls_ _) rfl (aI rfl)
     ·refine aA rfl z (aS ?_)
      obtain rfl:=af f
      obtain rfl:=af m
      exact aV ((b.1,b.2),g) rfl rfl (aI rfl)
   ·rintro ⟨b,g⟩ M I y o q
    subst M
    refine aN _ o q (aj (aa (gV g 2 b.1) (aa (gV g 2 b.1) (ah (jb 2 rfl (fC 6 2 rfl rfl (fC 7 2 rfl rfl (fC 71 2 rfl rfl ?_))))))))
    obtain rfl:=af j
    exact aC (aL [(vL Window.enc b.1)] ⟨rfl,trivial⟩)
theorem Ce {b:(List Entry)} {m:Player} {j:Window} {r:(List Span)} (B:iy b m j=some r) :
  FnM Tryz.prog 50 [(vL Entry.enc b),(.d (.agg (Player.enc m))),(.d (.agg (Window.enc j)))] [] (vL Span.enc r) []:=by
 refine FnM.of_wH ⟨Tryz.prog,47,[],[]⟩ rfl Tryz.func50 rfl rfl (lb_ rfl) (by kernel_rfl) ?_
 unfold iy at B
 refine aj (dQ 0 (.inl rfl) (Player.v m) rfl rfl wz (λy=>dQ 0 (.inl rfl) [(vI j.From),(vI j.To)] rfl rfl wz (λz=>aa .nil (ah (aj (aa .nil (ah (au (aj (aa (vL Entry.enc b) (bS Cv rfl wz (aa (vI 0) (ah (iO (λÀ => ?_)))))))))))))))
 obtain ⟨Á,F,B⟩:=bind_some B
 obtain ⟨M,F⟩:=aW F
 refine gH (σ:=(List Span)) (N:=Nm) (λp=>(λ(c:List Span) (f:Nm)=>([(7,(gV f 3 c))]:SL_)) p.1 p.2) (λp=>(λ(c:List Span) (f:Nm)=>([(y,some (.cells 4 (Player.v m))),(z,some (.cells 2 [(vI j.From),(vI j.To)])),(f,gB 3 Span.enc c)]:Hp)) p.1 p.2) (λ(a:Nat)=>(λp=>(λ(c:List Span) (f:Nm)=>([(0,(vL Entry.enc b)),(4,(.ref y 0 0)),(5,(.ref z 0 0)),(7,(gV f 3 c)),(12,(vI (b.length:Int))),(13,(vI (a:Int)))]:SL_)) p.1 p.2)) (λk x s=>iA m j b k x s) Á b (([]:List Span),À) F rfl (aI rfl) ?_ ?_
 ·rintro ⟨a,C,c,f⟩ ⟨o,l⟩
  dsimp only at o l
  cases C with
  | nil =>
   obtain rfl:=af o
   refine aj (aa (vB (decide ((a:Int)<(b.length:Int)))) (ah ?_))
   refine au (aA rfl (drop_nil l) (aS ?_))
   exact aV (c,f) rfl rfl (aI rfl)
  | cons P C =>
   obtain ⟨T,e,o⟩:=bind_some o
   refine aj (aa (vB (decide ((a:Int)<(b.length:Int)))) (ah ?_))
   refine au (aB rfl (bv l) (ax ?_))
   unfold iA at e
   refine au (aM (aj (aa (vI (a:Int)) (aa (vI (a:Int)) (ah (au (au (bI (aa (vL Entry.enc b) (aa (vI (a:Int)) (dR yX rfl rfl (bJ l) rfl wz (bN kH qx rfl (.d (.agg (Entry.enc P))) rfl wz (ay 4 0 (.inr (by kernel_rfl)) (λ_ _ ag=>trivial) yM Bg rfl rfl (.d (.agg (Player.enc m))) rfl wz ?_)))))))))))))
   obtain ⟨Ã,W,e⟩:=bind_some e
   refine aF (wU W) rfl hb81 rfl rfl rfl rfl wz (aa (vB (!Ã)) (ah ?_))
   rcases ak e with⟨E,e⟩|⟨E,e⟩
   ·refine aB rfl E (aS (av (dX (bD l M) wz rfl (aa (vI ((a+1:Nat):Int)) (ah ?_)))))
    obtain rfl:=af e
    exact aU (a+1,C,c,f) ⟨o,aQ l⟩ (ls_ _) rfl (aI rfl)
   ·refine aA rfl E (ax (au (bI (aa (vL Entry.enc b) (aa (vI (a:Int)) (dR yX rfl rfl (bJ l) rfl wz (bN kH qx rfl (.d (.agg (Entry.enc P))) rfl wz (aH Mq rfl 2 rfl wz (ay 5 0 (.inr (by kernel_rfl)) (λ_ _ ag=>trivial) sz3 ag3 rfl rfl (vI m.Zone) rfl wz (ay 6 1 (.inr (by kernel_rfl)) (λ_ _ ag=>⟨.inl ⟨rfl,rfl⟩,trivial⟩) mM tK rfl rfl (.d (.agg (Window.enc j))) rfl wz ?_))))))))))
    obtain ⟨A,X,e⟩:=bind_some e
    refine aF (vw X) rfl hb68 rfl rfl rfl rfl wz (bS un86 rfl wz (aa (vI 0) (ah ?_)))
    obtain ⟨Â,G,e⟩:=bind_some e
    obtain ⟨U,G⟩:=aW G
    refine gH (σ:=(List Span)) (N:=Nm) (λp=>(λ(h:List Span) (g:Nm)=>([(0,(vL Entry.enc b)),(4,(.ref y 0 0)),(5,(.ref z 0 0)),(7,(gV g 3 h)),(12,(vI (b.length:Int))),(13,(vI (a:Int)))]:SL_)) p.1 p.2) (λp=>(λ(h:List Span) (g:Nm)=>([(y,some (.cells 4 (Player.v m))),(z,some (.cells 2 [(vI j.From),(vI j.To)])),(g,gB 3 Span.enc h)]:Hp)) p.1 p.2) (λ(t:Nat)=>(λp=>(λ(h:List Span) (g:Nm)=>([(0,(vL Entry.enc b)),(4,(.ref y 0 0)),(5,(.ref z 0 0)),(7,(gV g 3 h)),(8,(vI (a:Int))),(12,(vI (b.length:Int))),(13,(vI (a:Int))),(30,(vL Window.enc A)),(31,(vI (A.length:Int))),(32,(vI (t:Int)))]:SL_)) p.1 p.2)) (λk x s=>iB b a k x s) Â A (c,f) G rfl (aI rfl) ?_ ?_
    ·rintro ⟨t,K,h,g⟩ ⟨w,n⟩
     dsimp only at w n
     cases K with
     | nil =>
      obtain rfl:=af w
      refine aj (aa (vB (decide ((t:Int)<(A.length:Int)))) (ah ?_))
      refine au (aA rfl (drop_nil n) (aS ?_))
      exact aV (h,g) rfl rfl (aI rfl)
     | cons u K =>
      obtain ⟨T,q,w⟩:=bind_some w
      refine aj (aa (vB (decide ((t:Int)<(A.length:Int)))) (ah ?_))
      refine au (aB rfl (bv n) (ax ?_))
      unfold iB at q
      refine au (aM (aj (dR OB rfl rfl (bJ n) rfl wz (bN mM tK rfl (.d (.agg (Window.enc u))) rfl wz (bZ 0 (.inl rfl) z46 rfl wz (λÅ=>dY 0 il ft 3 mM rfl rfl [(vI u.From),(vI u.To)] rfl wz (ah (bI (aa (gV g 3 h) (aa (vL Entry.enc b) (aa (vI (a:Int)) ?_)))))))))))
      obtain ⟨Q,Y,q⟩:=bind_some q
      refine dR yX rfl rfl Y rfl wz (ay 4 3 (.inr (by kernel_rfl)) (λ_ _ ag=>trivial) mM tK rfl rfl (.d (.agg (Window.enc u))) rfl wz (aK (.d (.agg (Span.enc (⟨(some Q),u⟩:Span)))) wz (by kernel_rfl) (eP (([(⟨(some Q),u⟩:Span)]:List Span).map Span.enc) CL ez72 rfl rfl rfl rfl rfl wz ?_)))
      obtain ⟨L,Z,q⟩:=bind_some q
      refine kJ 7 (.inr (by kernel_rfl)) (λ_ _ ag=>⟨.inr (.inr (by kernel_rfl)),trivial⟩) (i:=2) MB MB qE z76 rfl (by decide) by76 (by decide) (λ_=>rfl) rfl rfl rfl Z wz (λO=>aa (gV O 3 L) (ah (av (dX (bD n U) wz rfl (aa (vI ((t+1:Nat):Int)) (ah ?_))))))
      obtain rfl:=af q
      exact aU (t+1,K,L,O) ⟨w,aQ n⟩ (ls_ _) rfl (aI rfl)
    ·rintro ⟨h,g⟩ H Ä R I J
     subst H
     refine aN _ I J (av (dX (bD l M) wz rfl (aa (vI ((a+1:Nat):Int)) (ah ?_))))
     obtain rfl:=af e
     exact aU (a+1,C,h,g) ⟨o,aQ l⟩ (ls_ _) rfl (aI rfl)
 ·rintro ⟨c,f⟩ H Ä R I J
  subst H
  refine aN _ I J (aj (aa (gV f 3 c) (aa (gV f 3 c) (ah (jb 2 rfl (fC 6 2 rfl rfl (fC 7 2 rfl rfl (fC 46 2 rfl rfl ?_))))))))
  obtain rfl:=af B
  exact aC (aL [(vL Span.enc c)] ⟨rfl,trivial⟩)
section
variable [dM:DM]
theorem jH {b:Int} {c:Int} {r:Int} (a:cmp_Compare_int b c=some r) :
  FnM Tryz.prog 55 [(vI b),(vI c)] [] (vI r) []:=by
 refine FnM.of_wH ⟨Tryz.prog,20,[],[]⟩ rfl Tryz.func55 rfl rfl (lb_ rfl) (by kernel_rfl) ?_
 unfold cmp_Compare_int at a
 refine aj (aa (vI 0) (ah (aj (aa (vI b) ?_))))
 obtain ⟨j,k,a⟩:=bind_some a
 refine aF (nV k) rfl hb85 rfl rfl rfl rfl wz (aa (vB j) (ah (aj (aa (vI c) ?_))))
 obtain ⟨i,l,a⟩:=bind_some a
 refine aF (nV l) rfl hb85 rfl rfl rfl rfl wz (aa (vB i) (ah (au (aj (aa (vB j) (ah ?_))))))
 rcases ak a with⟨f,a⟩|⟨f,a⟩
 ·refine aB rfl f (au (aj (aa (vB i) (ah ?_))))
  rcases ak a with⟨g,a⟩|⟨g,a⟩
  ·refine aB rfl g (aj (aa (vI 0) (ah ?_)))
   obtain rfl:=af a
   exact aC (aL [(vI 0)] ⟨rfl,trivial⟩)
  ·refine aA rfl g (ax (aj (aa (vI (-1)) (ah ?_))))
   obtain rfl:=af a
   exact aC (aL [(vI (-1))] ⟨rfl,trivial⟩)
 ·refine aA rfl f (ax (au (aj (aa (vB i) (ah ?_)))))
  rcases ak a with⟨h,a⟩|⟨h,a⟩
  ·refine aB rfl h (aj (aa (vI 1) (ah ?_)))
   obtain rfl:=af a
   exact aC (aL [(vI 1)] ⟨rfl,trivial⟩)
  ·refine aA rfl h (ax (au (aj (aa (vI b) (aa (vI c) (aa (vB (decide (b<c))) (ah ?_)))))))
   rcases ak a with⟨d,a⟩|⟨d,a⟩
   ·refine aB rfl d (aj (aa (vI (-1)) (ah ?_)))
    obtain rfl:=af a
    exact aC (aL [(vI (-1))] ⟨rfl,trivial⟩)
   ·refine aA rfl d (ax (au (aj (aa (vI b) (aa (vI c) (aa (vB (decide (b>c))) (ah ?_)))))))
    rcases ak a with⟨e,a⟩|⟨e,a⟩
    ·refine aB rfl e (aj (aa (vI 1) (ah ?_)))
     obtain rfl:=af a
     exact aC (aL [(vI 1)] ⟨rfl,trivial⟩)
    ·refine aA rfl e (ax (aj (aa (vI 0) (ah ?_))))
     obtain rfl:=af a
     exact aC (aL [(vI 0)] ⟨rfl,trivial⟩)
end
section
variable [dM:DM]
theorem pI {a:ByteArray} {b:ByteArray} {r:Int} (c:iT a b=some r) :
  FnM Tryz.prog 131 [(vS a),(vS b)] [] (vI r) []:=by
 refine FnM.of_wH ⟨Tryz.prog,8,[],[]⟩ rfl Tryz.func131 rfl rfl (lb_ rfl) (by kernel_rfl) ?_
 unfold iT at c
 refine aj (aa (vI 0) (ah (aj (aa (vS a) (aa (vS b) (h_ext (Qf (f:=154) Tryz.func154 rfl rfl (by kernel_rfl) (by kernel_rfl) _ _) rfl nb154 rfl wz (aa (vI (EC a b)) (ah ?_))))))))
 obtain rfl:=af c
 exact aC (aL [(vI (EC a b))] ⟨rfl,trivial⟩)
end
section
variable [dM:DM]
theorem oV {b:ByteArray} {c:ByteArray} {r:Int} (a:strings_Compare b c=some r) :
  FnM Tryz.prog 84 [(vS b),(vS c)] [] (vI r) []:=by
 refine FnM.of_wH ⟨Tryz.prog,8,[],[]⟩ rfl Tryz.func84 rfl rfl (lb_ rfl) (by kernel_rfl) ?_
 unfold strings_Compare at a
 refine aj (aa (vI 0) (ah (aj (aa (vS b) (aa (vS c) ?_)))))
 obtain ⟨d,e,a⟩:=bind_some a
 refine aF (pI e) rfl hb131 rfl rfl rfl rfl wz (aa (vI d) (ah ?_))
 obtain rfl:=af a
 exact aC (aL [(vI d)] ⟨rfl,trivial⟩)
end
section
variable [dM:DM]
theorem wF {a:(List Int)} {r:Int} (g:o8 a=some r) :
  FnM Tryz.prog 83 [(vL eI a)] [] (vI r) []:=by
 refine FnM.of_wH ⟨Tryz.prog,18,[],[]⟩ rfl Tryz.func83 rfl rfl (lb_ rfl) (by kernel_rfl) ?_
 unfold o8 at g
 refine aj (aa (vI 0) (ah (aj (aa (vI 0) (ah (au (aj (aa (vL eI a) (bS sN rfl wz (aa (vI 0) (ah ?_)))))))))))
 obtain ⟨q,j,g⟩:=bind_some g
 obtain ⟨m,j⟩:=aW j
 refine cz (λ(h:Unit)=>[(3,(vI 0))]) (λ(h:Unit)=>[]) (λ(f:Nat)=>(λ(h:Unit)=>[(3,(vI 0)),(6,(vL eI a)),(7,(vI (a.length:Int))),(8,(vI (f:Int)))])) (λk x s=>rq k x s) q a () j rfl (aI rfl) ?_ ?_
 ·rintro ⟨f,l,h⟩ ⟨d,c⟩
  dsimp only at d c
  cases l with
  | nil =>
   obtain rfl:=af d
   refine aj (aa (vB (decide ((f:Int)<(a.length:Int)))) (ah ?_))
   refine au (aA rfl (drop_nil c) (aS ?_))
   exact aV (h) rfl rfl (aI rfl)
  | cons b l =>
   obtain ⟨u,e,d⟩:=bind_some d
   refine aj (aa (vB (decide ((f:Int)<(a.length:Int)))) (ah ?_))
   refine au (aB rfl (bv c) (ax ?_))
   unfold rq at e
   refine au (aM (aj (dR ko rfl rfl (bJ c) rfl wz (bN sz3 ag3 rfl (vI b) rfl wz (aa (vI b) (ah (aj (aa (vI b) (aa (vI 0) (aa (vB (b != 0)) (ah ?_)))))))))))
   rcases ak e with⟨i,e⟩|⟨i,e⟩
   ·refine aB rfl i (aj (aa (vI b) (aa (vI b) (ah ?_))))
    obtain rfl:=af e
    obtain rfl:=af d
    obtain rfl:=af g
    exact aC (aL [(vI b)] ⟨rfl,trivial⟩)
   ·refine aA rfl i (ax (av (dX (bD c m) wz rfl (aa (vI ((f+1:Nat):Int)) (ah ?_)))))
    obtain rfl:=af e
    exact aU (f+1,l,()) ⟨d,aQ c⟩ (ls_ _) rfl (aI rfl)
 ·rintro h n v t o p
  subst n
  refine aN _ o p (aj (aa (vI 0) (aa (vI 0) (ah ?_))))
  obtain rfl:=af g
  exact aC (aL [(vI 0)] ⟨rfl,trivial⟩)
end
section
variable [dM:DM]
theorem tq {b:Span} {c:Span} {r:Int} (a:eX b c=some r) :
  FnM Tryz.prog 52 [(.d (.agg (Span.enc b))),(.d (.agg (Span.enc c)))] [] (vI r) []:=by
 refine FnM.of_wH ⟨Tryz.prog,36,[],[]⟩ rfl Tryz.func52 rfl rfl (lb_ rfl) (by kernel_rfl) ?_
 unfold eX at a
 refine aj (dQ 0 (.inl rfl) (Span.v b) rfl (bX (nU _ _) (bX rfl (bX rfl rfl))) wz (λs=>dQ 0 (.inl rfl) (Span.v c) rfl (bX (nU _ _) (bX rfl (bX rfl rfl))) wz (λt=>aa (vI 0) (ah (au (bI (aH Gb rfl 0 rfl wz (ay 1 1 (.inr (by kernel_rfl)) (λ_ _ ag=>trivial) Qn QV rfl rfl (.d (dP Entry.enc c.f_e)) rfl wz ?_))))))))
 obtain ⟨e,p,a⟩:=bind_some a
 refine eU (v':=(.d (.ptr (Entry.enc e)))) 6 rfl (Aj (enc:=Entry.enc) (y:=e) p) (aa (.d (.ptr (Entry.enc e))) (oJ zQ rfl [.int .i64 e.Prio,dl eS e.Tags,.bool e.Gone] rfl rfl wz (bN sz3 ag3 rfl (vI e.Prio) rfl wz (aH Gb rfl 0 rfl wz (ay 6 0 (.inr (by kernel_rfl)) (λ_ _ ag=>⟨.inl ⟨rfl,rfl⟩,trivial⟩) Qn QV rfl rfl (.d (dP Entry.enc b.f_e)) rfl wz ?_)))))
 obtain ⟨f,q,a⟩:=bind_some a
 refine eU (v':=(.d (.ptr (Entry.enc f)))) 11 rfl (Aj (enc:=Entry.enc) (y:=f) q) (aa (.d (.ptr (Entry.enc f))) (oJ zQ rfl [.int .i64 f.Prio,dl eS f.Tags,.bool f.Gone] rfl rfl wz (bN sz3 ag3 rfl (vI f.Prio) rfl wz ?_)))
 obtain ⟨x,j,a⟩:=bind_some a
 refine aF (jH j) rfl QT rfl rfl rfl rfl wz (aH Bf rfl 1 rfl wz (aH jB rfl 1 rfl wz (ay 13 1 (.inr (by kernel_rfl)) (λ_ _ ag=>⟨.inl ⟨rfl,rfl⟩,⟨.inl ⟨rfl,rfl⟩,trivial⟩⟩) sz3 ag3 rfl rfl (vI c.f_time.From) rfl wz (aH Bf rfl 1 rfl wz (aH jB rfl 1 rfl wz (ay 16 0 (.inr (by kernel_rfl)) (λ_ _ ag=>⟨.inl ⟨rfl,rfl⟩,⟨.inl ⟨rfl,rfl⟩,⟨.inl ⟨rfl,rfl⟩,trivial⟩⟩⟩) sz3 ag3 rfl rfl (vI b.f_time.From) rfl wz ?_))))))
 obtain ⟨u,k,a⟩:=bind_some a
 refine aF (jH k) rfl QT rfl rfl rfl rfl wz (aH Gb rfl 0 rfl wz (ay 19 1 (.inr (by kernel_rfl)) (λ_ _ ag=>⟨.inl ⟨rfl,rfl⟩,⟨.inl ⟨rfl,rfl⟩,⟨.inl ⟨rfl,rfl⟩,⟨.inl ⟨rfl,rfl⟩,trivial⟩⟩⟩⟩) Qn QV rfl rfl (.d (dP Entry.enc c.f_e)) rfl wz ?_))
 obtain ⟨g,n,a⟩:=bind_some a
 refine eU (v':=(.d (.ptr (Entry.enc g)))) 24 rfl (Aj (enc:=Entry.enc) (y:=g) n) (aa (.d (.ptr (Entry.enc g))) (oJ sU rfl (Entry.enc g) rfl rfl wz (bN sz9 ag9 rfl (vS g.Key) rfl wz (aH Gb rfl 0 rfl wz (ay 24 0 (.inr (by kernel_rfl)) (λ_ _ ag=>⟨.inl ⟨rfl,rfl⟩,⟨.inl ⟨rfl,rfl⟩,⟨.inl ⟨rfl,rfl⟩,⟨.inl ⟨rfl,rfl⟩,⟨.inl ⟨rfl,rfl⟩,trivial⟩⟩⟩⟩⟩) Qn QV rfl rfl (.d (dP Entry.enc b.f_e)) rfl wz ?_)))))
 obtain ⟨h,o,a⟩:=bind_some a
 refine eU (v':=(.d (.ptr (Entry.enc h)))) 29 rfl (Aj (enc:=Entry.enc) (y:=h) o) (aa (.d (.ptr (Entry.enc h))) (oJ sU rfl (Entry.enc h) rfl rfl wz (bN sz9 ag9 rfl (vS h.Key) rfl wz ?_)))
 obtain ⟨w,l,a⟩:=bind_some a
 refine aF (oV l) rfl hb84 rfl rfl rfl rfl wz (eP (([x,u,w]:List Int).map eI) ko yQ rfl rfl rfl rfl rfl wz ?_)
 obtain ⟨i,m,a⟩:=bind_some a
 refine aF (wF m) rfl hb83 rfl rfl rfl rfl wz (aa (vI i) (ah (aN (H0:=([(s,some (.cells 3 (Span.v b))),(t,some (.cells 3 (Span.v c)))]:Hp)) ([(4,(vI i))]:SL_) (by kernel_rfl) (wy (by kernel_rfl)) ?_)))
 obtain rfl:=af a
 exact aC (aL [(vI i)] ⟨rfl,trivial⟩)
end
theorem oW {x r:(List Span)} (c:iE x=some r) :
  FnM Tryz.prog 51 [(dV (aG 0) 3 x),(.fn 52 [])] (([]:List Box)++gI 3 Span.enc x) (.tup []) (([]:List Box).map some++gT x (gB 3 Span.enc r)) :=
 II (dp:=8) (λ_=>(iU (Pf (λ_=>(iU rfl (iU rfl (iU rfl (iU rfl (iU rfl (iU rfl (iU rfl (iU (J4 (λ_=>(iU rfl rfl))) (iU rfl (iU rfl (iU rfl (iU (J4 (λ_=>(iU rfl rfl))) (iU rfl rfl))))))))))))))) (iU rfl (iU rfl rfl)))) (E:=Span.enc) (F:=λa b=>eX a b) (λ_=>rfl) (λa b r h=>tq (dM:=dmT) h) hb52 (λβ _ enc hk h1 cf hO g cb blk off cap d w eg hcmp hH hblk hsz=>Tryz.slices_SortFunc_eq_f51 3 Tryz.isAgg76 Tryz.sizeOf76 enc hk h1 cf hO g cb blk off cap d w eg hcmp hH hblk hsz) (λp cap fv w=>Tryz.slices_SortFunc_none_f51 (α:=Nat) p cap fv w) c
theorem uZ {b:(List Entry)} {m:Player} {j:Window} {r:(List Span)} (B:iy b m j=some r) :
  FnM Tryz.prog 50 [(vL Entry.enc b),(.d (.agg (Player.enc m))),(.d (.agg (Window.enc j)))] [] (gV (aG 0) 3 r) (([]:List Box).map some++gO 3 Span.enc r):=by
 refine FnM.of_wH ⟨Tryz.prog,47,[],[]⟩ rfl Tryz.func50 rfl rfl (lb_ rfl) (by kernel_rfl) ?_
 unfold iy at B
 refine aj (dQ 0 (.inl rfl) (Player.v m) rfl rfl wz (λy=>dQ 0 (.inl rfl) [(vI j.From),(vI j.To)] rfl rfl wz (λz=>aa .nil (ah (aj (aa .nil (ah (au (aj (aa (vL Entry.enc b) (bS Cv rfl wz (aa (vI 0) (ah (iO (λÀ => ?_)))))))))))))))
 obtain ⟨Á,F,B⟩:=bind_some B
 obtain ⟨M,F⟩:=aW F
 refine gH (σ:=(List Span)) (N:=Nm) (λp=>(λ(f:List Span) (e:Nm)=>([(7,(gV e 3 f))]:SL_)) p.1 p.2) (λp=>(λ(f:List Span) (e:Nm)=>([(y,some (.cells 4 (Player.v m))),(z,some (.cells 2 [(vI j.From),(vI j.To)])),(e,gB 3 Span.enc f)]:Hp)) p.1 p.2) (λ(a:Nat)=>(λp=>(λ(f:List Span) (e:Nm)=>([(0,(vL Entry.enc b)),(4,(.ref y 0 0)),(5,(.ref z 0 0)),(7,(gV e 3 f)),(12,(vI (b.length:Int))),(13,(vI (a:Int)))]:SL_)) p.1 p.2)) (λk x s=>iA m j b k x s) Á b (([]:List Span),À) F rfl (aI rfl) ?_ ?_
 ·rintro ⟨a,C,f,e⟩ ⟨o,l⟩
  dsimp only at o l
  cases C with
  | nil =>
   obtain rfl:=af o
   refine aj (aa (vB (decide ((a:Int)<(b.length:Int)))) (ah ?_))
   refine au (aA rfl (drop_nil l) (aS ?_))
   exact aV (f,e) rfl rfl (aI rfl)
  | cons P C =>
   obtain ⟨T,c,o⟩:=bind_some o
   refine aj (aa (vB (decide ((a:Int)<(b.length:Int)))) (ah ?_))
   refine au (aB rfl (bv l) (ax ?_))
   unfold iA at c
   refine au (aM (aj (aa (vI (a:Int)) (aa (vI (a:Int)) (ah (au (au (bI (aa (vL Entry.enc b) (aa (vI (a:Int)) (dR yX rfl rfl (bJ l) rfl wz (bN kH qx rfl (.d (.agg (Entry.enc P))) rfl wz (ay 4 0 (.inr (by kernel_rfl)) (λ_ _ ag=>trivial) yM Bg rfl rfl (.d (.agg (Player.enc m))) rfl wz ?_)))))))))))))
   obtain ⟨Ã,W,c⟩:=bind_some c
   refine aF (wU W) rfl hb81 rfl rfl rfl rfl wz (aa (vB (!Ã)) (ah ?_))
   rcases ak c with⟨E,c⟩|⟨E,c⟩
   ·refine aB rfl E (aS (av (dX (bD l M) wz rfl (aa (vI ((a+1:Nat):Int)) (ah ?_)))))
    obtain rfl:=af c
    exact aU (a+1,C,f,e) ⟨o,aQ l⟩ (ls_ _) rfl (aI rfl)
   ·refine aA rfl E (ax (au (bI (aa (vL Entry.enc b) (aa (vI (a:Int)) (dR yX rfl rfl (bJ l) rfl wz (bN kH qx rfl (.d (.agg (Entry.enc P))) rfl wz (aH Mq rfl 2 rfl wz (ay 5 0 (.inr (by kernel_rfl)) (λ_ _ ag=>trivial) sz3 ag3 rfl rfl (vI m.Zone) rfl wz (ay 6 1 (.inr (by kernel_rfl)) (λ_ _ ag=>⟨.inl ⟨rfl,rfl⟩,trivial⟩) mM tK rfl rfl (.d (.agg (Window.enc j))) rfl wz ?_))))))))))
    obtain ⟨A,X,c⟩:=bind_some c
    refine aF (vw X) rfl hb68 rfl rfl rfl rfl wz (bS un86 rfl wz (aa (vI 0) (ah ?_)))
    obtain ⟨Â,G,c⟩:=bind_some c
    obtain ⟨U,G⟩:=aW G
    refine gH (σ:=(List Span)) (N:=Nm) (λp=>(λ(h:List Span) (g:Nm)=>([(0,(vL Entry.enc b)),(4,(.ref y 0 0)),(5,(.ref z 0 0)),(7,(gV g 3 h)),(12,(vI (b.length:Int))),(13,(vI (a:Int)))]:SL_)) p.1 p.2) (λp=>(λ(h:List Span) (g:Nm)=>([(y,some (.cells 4 (Player.v m))),(z,some (.cells 2 [(vI j.From),(vI j.To)])),(g,gB 3 Span.enc h)]:Hp)) p.1 p.2) (λ(t:Nat)=>(λp=>(λ(h:List Span) (g:Nm)=>([(0,(vL Entry.enc b)),(4,(.ref y 0 0)),(5,(.ref z 0 0)),(7,(gV g 3 h)),(8,(vI (a:Int))),(12,(vI (b.length:Int))),(13,(vI (a:Int))),(30,(vL Window.enc A)),(31,(vI (A.length:Int))),(32,(vI (t:Int)))]:SL_)) p.1 p.2)) (λk x s=>iB b a k x s) Â A (f,e) G rfl (aI rfl) ?_ ?_
    ·rintro ⟨t,K,h,g⟩ ⟨w,n⟩
     dsimp only at w n
     cases K with
     | nil =>
      obtain rfl:=af w
      refine aj (aa (vB (decide ((t:Int)<(A.length:Int)))) (ah ?_))
      refine au (aA rfl (drop_nil n) (aS ?_))
      exact aV (h,g) rfl rfl (aI rfl)
     | cons u K =>
      obtain ⟨T,q,w⟩:=bind_some w
      refine aj (aa (vB (decide ((t:Int)<(A.length:Int)))) (ah ?_))
      refine au (aB rfl (bv n) (ax ?_))
      unfold iB at q
      refine au (aM (aj (dR OB rfl rfl (bJ n) rfl wz (bN mM tK rfl (.d (.agg (Window.enc u))) rfl wz (bZ 0 (.inl rfl) z46 rfl wz (λÅ=>dY 0 il ft 3 mM rfl rfl [(vI u.From),(vI u.To)] rfl wz (ah (bI (aa (gV g 3 h) (aa (vL Entry.enc b) (aa (vI (a:Int)) ?_)))))))))))
      obtain ⟨Q,Y,q⟩:=bind_some q
      refine dR yX rfl rfl Y rfl wz (ay 4 3 (.inr (by kernel_rfl)) (λ_ _ ag=>trivial) mM tK rfl rfl (.d (.agg (Window.enc u))) rfl wz (aK (.d (.agg (Span.enc (⟨(some Q),u⟩:Span)))) wz (by kernel_rfl) (eP (([(⟨(some Q),u⟩:Span)]:List Span).map Span.enc) CL ez72 rfl rfl rfl rfl rfl wz ?_)))
      obtain ⟨L,Z,q⟩:=bind_some q
      refine kJ 7 (.inr (by kernel_rfl)) (λ_ _ ag=>⟨.inr (.inr (by kernel_rfl)),trivial⟩) (i:=2) MB MB qE z76 rfl (by decide) by76 (by decide) (λ_=>rfl) rfl rfl rfl Z wz (λO=>aa (gV O 3 L) (ah (av (dX (bD n U) wz rfl (aa (vI ((t+1:Nat):Int)) (ah ?_))))))
      obtain rfl:=af q
      exact aU (t+1,K,L,O) ⟨w,aQ n⟩ (ls_ _) rfl (aI rfl)
    ·rintro ⟨h,g⟩ H Ä R I J
     subst H
     refine aN _ I J (av (dX (bD l M) wz rfl (aa (vI ((a+1:Nat):Int)) (ah ?_))))
     obtain rfl:=af c
     exact aU (a+1,C,h,g) ⟨o,aQ l⟩ (ls_ _) rfl (aI rfl)
 ·rintro ⟨f,e⟩ H Ä R I J
  subst H
  refine aN _ I J (aj (aa (gV e 3 f) (aa (gV e 3 f) (ah ?_))))
  obtain rfl:=af B
  exact aC (Lt (outs:=([]:List Box)) (.inr rfl) 2 rfl rfl rfl (by kernel_rfl) (by kernel_rfl))
theorem F3 {h:(List Entry)} {g:Player} {c:Int} {r:(List Span)} (a:rV h g c=some r) :
  FnM Tryz.prog 29 [(vL Entry.enc h),(.d (.agg (Player.enc g))),(vI c)] [] (vL Span.enc r) []:=by
 refine FnM.of_wH ⟨Tryz.prog,18,[],[]⟩ rfl Tryz.func29 rfl rfl (lb_ rfl) (by kernel_rfl) ?_
 unfold rV at a
 refine aj (dQ 0 (.inl rfl) (Player.v g) rfl rfl wz (λi=>aa .nil (ah (aj (aa (vL Entry.enc h) (ay 0 0 il ft yM Bg rfl rfl (.d (.agg (Player.enc g))) rfl wz (aa (vI c) (aa (vI c) (aa (vI (w64 (c+1))) (aK (.d (.agg (Window.enc (⟨c,(w64 (c+1))⟩:Window)))) wz (by kernel_rfl) ?_))))))))))
 obtain ⟨j,l,a⟩:=bind_some a
 refine EW [] (uZ l) rfl hb50 rfl (by kernel_rfl) (by kernel_rfl) (by kernel_rfl) (by kernel_rfl) (by kernel_rfl) rfl (by decide) (by kernel_rfl) wz ([(i,some (.cells 4 (Player.v g)))]:Hp) (λ_=>by kernel_rfl) (λb=>aa (gV b 3 j) (ah (aj (aa (gV b 3 j) ?_))))
 obtain ⟨e,k,a⟩:=bind_some a
 obtain ⟨_,f,a⟩:=bind_some a
 replace f:=qo f
 refine oN 0 [] 1 0 il ft (oW k) rfl hb51 rfl rfl rfl (by kernel_rfl) rfl (.inl rfl) rfl (by kernel_rfl) (by kernel_rfl) (by kernel_rfl) (by kernel_rfl) rfl (by decide) (by kernel_rfl) rC (Ay f) wz ([(i,some (.cells 4 (Player.v g))),(b,gB 3 Span.enc e)]:Hp) (by kernel_rfl) (eU (v':=(gV b 3 e)) 14 rfl (ja f.symm) (eU (v':=(gV b 3 e)) 15 rfl (ja f.symm) (eU (v':=(gV b 3 e)) 7 rfl (ja f.symm) (ah (aj (aa (gV b 3 e) (aa (gV b 3 e) (ah (jb 1 rfl (fC 6 1 rfl rfl (fC 7 1 rfl rfl (fC 14 1 rfl rfl (fC 15 1 rfl rfl (fC 17 1 rfl rfl ?_))))))))))))))
 obtain rfl:=af a
 exact aC (aL [(vL Span.enc e)] ⟨rfl,trivial⟩)
theorem wP {c:(List ByteArray)} {r:(List ByteArray)} (g:kw c=some r) :
  FnM Tryz.prog 7 [(dV (aG 0) 1 c)] (([]:List Box)++gI 1 eS c) (.tup []) (([]:List Box).map some++gT c (gB 1 eS r)):=by
 refine FnM.of_wHv ⟨Tryz.prog,14,[],[]⟩ rfl Tryz.func7 rfl rfl (lb_ rfl) (by kernel_rfl) ?_
 unfold kw at g
 refine aj (aa (vS (⟨#[]⟩:ByteArray)) (ah (aj (aa (dV (aG 0) 1 c) (BJ yz rfl wz (aa (vI 0) (ah ?_)))))))
 obtain ⟨q,h,g⟩:=bind_some g
 obtain ⟨l,h⟩:=aW h
 refine cz (λ(a:List ByteArray)=>[]) (λ(a:List ByteArray)=>[((aG 0),gB 1 eS a)]) (λ(b:Nat)=>(λ(a:List ByteArray)=>[(0,(dV (aG 0) 1 a)),(2,(vS (⟨#[]⟩:ByteArray))),(5,(vI (c.length:Int))),(6,(vI (b:Int)))])) (λk x s=>jl k x s) q (List.range ((c.length:Int)).toNat) c h rfl (aI rfl) ?_ ?_
 ·rintro ⟨b,i,a⟩ ⟨f,e⟩
  dsimp only at f e
  cases i with
  | nil =>
   obtain rfl:=af f
   refine aj (aa (vB (decide ((b:Int)<(c.length:Int)))) (ah ?_))
   refine au (aA rfl (nO e) (aS ?_))
   exact aV (a) rfl rfl (aI rfl)
  | cons z i =>
   obtain ⟨u,d,f⟩:=bind_some f
   refine aj (aa (vB (decide ((b:Int)<(c.length:Int)))) (ah ?_))
   refine au (aB rfl (lu e) (ax ?_))
   unfold jl at d
   refine au (aM (aj (aa (vI (b:Int)) (aa (vI (b:Int)) (ah (av (aa (dV (aG 0) 1 a) (aa (vI (b:Int)) (aa (vS (⟨#[]⟩:ByteArray)) ?_)))))))))
   obtain ⟨_,j,d⟩:=bind_some d
   refine qC qW rfl rfl (jM j) (gK j) wz ?_
   obtain ⟨v,p,d⟩:=bind_some d
   refine A7 0 il ft 0 sz9 rfl rfl p (⟨#[]⟩:ByteArray) rfl wz (eU (v':=(dV (aG 0) 1 (a.set (0+((b:Int)).toNat) (⟨#[]⟩:ByteArray)))) 0 rfl (lH (by simp)) (eU (v':=(dV (aG 0) 1 (a.set (0+((b:Int)).toNat) (⟨#[]⟩:ByteArray)))) 9 rfl (lH (by simp)) (ah (av (dX (nR e l) wz rfl (aa (vI ((b+1:Nat):Int)) (ah ?_)))))))
   obtain rfl:=af d
   exact aU (b+1,i,(a.set (0+((b:Int)).toNat) (⟨#[]⟩:ByteArray))) ⟨f,aQ e⟩ (ls_ _) rfl (aI rfl)
 ·rintro a m y t w n
  subst m
  show uz _ _ _ _ _ _ _ _
  obtain rfl:=af g
  exact xU (H0:=([((aG 0),gB 1 eS a)]:Hp)) (sl':=envS []) n (Hz (bs:=([]:List Box)) (os:=([]:List Box)) (xs:=c) (o:=gB 1 eS a) (.inl rfl) [] trivial rfl rfl rfl rfl rfl (by kernel_rfl) rC rfl)
theorem Dc {q:(List Entry)} {h:Player} {o:Int} {r:(List ByteArray)×Int} (a:qf q h o=some r) :
  FnM Tryz.prog 10 [(vL Entry.enc q),(.d (.agg (Player.enc h))),(vI o)] [] (vM [.int .i64 r.2] (gV (aG 0) 1 r.1)) (([]:List Box).map some++gO 1 eS r.1):=by
 refine FnM.of_wH ⟨Tryz.prog,38,[],[]⟩ rfl Tryz.func10 rfl rfl (lb_ rfl) (by kernel_rfl) ?_
 unfold qf at a
 refine aj (dQ 0 (.inl rfl) (Player.v h) rfl rfl wz (λM=>aa .nil (aa (vI 0) (ah (au (aj (aa (vL Entry.enc q) (ay 0 0 il ft yM Bg rfl rfl (.d (.agg (Player.enc h))) rfl wz (aa (vI o) ?_)))))))))
 obtain ⟨j,I,a⟩:=bind_some a
 refine aF (wW I) rfl hb28 rfl rfl rfl rfl wz (aa (vI j) (ah (aj (aa (vI j) (aa (vB (j != 0)) (ah ?_))))))
 rcases ak a with⟨t,a⟩|⟨t,a⟩
 ·refine aB rfl t (aj (aa (vI j) (aa .nil (aa (vI j) (ah (iO (λT => ?_)))))))
  obtain rfl:=af a
  exact aC (Ep (outs:=([]:List Box)) [.int .i64 j] (.inr rfl) 1 rfl ⟨rfl,trivial⟩ rfl rfl (by kernel_rfl) (by kernel_rfl))
 ·refine aA rfl t (ax (aj (aa .nil (ah (au (aj (aa (vL Entry.enc q) (ay 0 0 il ft yM Bg rfl rfl (.d (.agg (Player.enc h))) rfl wz (aa (vI o) ?_)))))))))
  obtain ⟨n,H,a⟩:=bind_some a
  refine aF (F3 H) rfl hb29 rfl rfl rfl rfl wz (bS EE rfl wz (aa (vI 0) (ah (iO (λL => ?_)))))
  obtain ⟨O,u,a⟩:=bind_some a
  obtain ⟨C,u⟩:=aW u
  refine gH (σ:=(List ByteArray)) (N:=Nm) (λp=>(λ(c:List ByteArray) (b:Nm)=>([(9,(gV b 1 c))]:SL_)) p.1 p.2) (λp=>(λ(c:List ByteArray) (b:Nm)=>([(M,some (.cells 4 (Player.v h))),(b,gB 1 eS c)]:Hp)) p.1 p.2) (λ(g:Nat)=>(λp=>(λ(c:List ByteArray) (b:Nm)=>([(9,(gV b 1 c)),(22,(vL Span.enc n)),(23,(vI (n.length:Int))),(24,(vI (g:Int)))]:SL_)) p.1 p.2)) (λk x s=>lZ k x s) O n (([]:List ByteArray),L) u rfl (aI rfl) ?_ ?_
  ·rintro ⟨g,w,c,b⟩ ⟨m,e⟩
   dsimp only at m e
   cases w with
   | nil =>
    obtain rfl:=af m
    refine aj (aa (vB (decide ((g:Int)<(n.length:Int)))) (ah ?_))
    refine au (aA rfl (drop_nil e) (aS ?_))
    exact aV (c,b) rfl rfl (aI rfl)
   | cons z w =>
    obtain ⟨Q,f,m⟩:=bind_some m
    refine aj (aa (vB (decide ((g:Int)<(n.length:Int)))) (ah ?_))
    refine au (aB rfl (bv e) (ax ?_))
    unfold lZ at f
    refine au (aM (aj (dR CL rfl rfl (bJ e) rfl wz (bN qE CP rfl (.d (.agg (Span.enc z))) rfl wz (bZ 0 (.inl rfl) z76 rfl wz (λR=>dY 0 il ft 2 qE rfl rfl (Span.v z) (Aa rfl (bX (nU _ _) (bX rfl (bX rfl rfl))) rfl rfl) wz (ah (av (aa (gV b 1 c) (aH Gb rfl 0 rfl wz (ay 0 2 il ft Qn QV rfl rfl (.d (dP Entry.enc z.f_e)) rfl wz ?_)))))))))))
    obtain ⟨l,J,f⟩:=bind_some f
    refine eU (v':=(.d (.ptr (Entry.enc l)))) 30 rfl (Aj (enc:=Entry.enc) (y:=l) J) (aa (.d (.ptr (Entry.enc l))) (oJ sU rfl (Entry.enc l) rfl rfl wz (bN sz9 ag9 rfl (vS l.Key) rfl wz (eP (([l.Key]:List ByteArray).map eS) qW Gq rfl rfl rfl rfl rfl wz ?_))))
    obtain ⟨A,K,f⟩:=bind_some f
    refine kJ 0 il ft (i:=1) Hy Hy sz9 z9 rfl (by decide) by9 (by decide) (λ_=>rfl) rfl rfl rfl K wz (λB=>aa (gV B 1 A) (ah (av (dX (bD e C) wz rfl (aa (vI ((g+1:Nat):Int)) (ah ?_))))))
    obtain rfl:=af f
    exact aU (g+1,w,A,B) ⟨m,aQ e⟩ (ls_ _) rfl (aI rfl)
  ·rintro ⟨c,b⟩ E U P F G
   subst E
   refine aN _ F G (aj (aa (gV b 1 c) (aa (gV b 1 c) (aa (vI 0) (ah ?_)))))
   obtain rfl:=af a
   exact aC (Ep (outs:=([]:List Box)) [.int .i64 0] (.inr rfl) 1 rfl ⟨rfl,trivial⟩ rfl rfl (by kernel_rfl) (by kernel_rfl))
theorem pg {a:Window} {r:Int} (b:fD a=some r) :
  FnM Tryz.prog 53 [(.d (.agg (Window.enc a)))] [] (vI r) []:=by
 refine FnM.of_wH ⟨Tryz.prog,19,[],[]⟩ rfl Tryz.func53 rfl rfl (lb_ rfl) (by kernel_rfl) ?_
 unfold fD at b
 refine aj (dQ 0 (.inl rfl) [(vI a.From),(vI a.To)] rfl rfl wz (λh=>aa (vI 0) (ah (au (au ?_)))))
 obtain ⟨l,c,b⟩:=bind_some b
 refine aP [(1,(.ref h 0 0)),(12,(vB l))] [(h,some (.cells 2 [(vI a.From),(vI a.To)]))] ?_ ?_
 ·refine av (aH jB rfl 0 rfl wz (ay 0 0 il ft sz3 ag3 rfl rfl (vI a.From) rfl wz (aH kz rfl 1 rfl wz (ay 0 0 il ft sz3 ag3 rfl rfl (vI a.To) rfl wz ?_))))
  obtain ⟨n,k,c⟩:=bind_some c
  refine aF (bH k) rfl tT rfl rfl rfl rfl wz ?_
  rcases ak c with⟨e,c⟩|⟨e,c⟩
  ·refine aD rfl e wz (ae (ae (ae (aa (vB true) (ah ?_)))))
   obtain rfl:=af c
   exact cu
  ·refine aD rfl e wz (aH kz rfl 1 rfl wa (ay 0 0 il ft sz3 ag3 rfl rfl (vI a.To) rfl wa (aK (vB (decide (a.To>345686400000))) wa rfl (aa (vB (decide (a.To>345686400000))) (ah ?_)))))
   obtain rfl:=af c
   exact cu
 ·rintro ⟨⟩ _ o m i j
  refine aN _ i j ?_
  rcases ak b with⟨f,b⟩|⟨f,b⟩
  ·refine aB rfl f (aj (aa (vI 1) (ah ?_)))
   obtain rfl:=af b
   exact aC (aL [(vI 1)] ⟨rfl,trivial⟩)
  ·refine aA rfl f (ax (au (aj (aH kz rfl 1 rfl wz (ay 0 0 il ft sz3 ag3 rfl rfl (vI a.To) rfl wz (aH jB rfl 0 rfl wz (ay 0 0 il ft sz3 ag3 rfl rfl (vI a.From) rfl wz (aa (vI (w64 (a.To-a.From))) (aa (vB (decide ((w64 (a.To-a.From))>34560000000))) (ah ?_))))))))))
   rcases ak b with⟨g,b⟩|⟨g,b⟩
   ·refine aB rfl g (aj (aa (vI 2) (ah ?_)))
    obtain rfl:=af b
    exact aC (aL [(vI 2)] ⟨rfl,trivial⟩)
   ·refine aA rfl g (ax (aj (aa (vI 0) (ah ?_))))
    obtain rfl:=af b
    exact aC (aL [(vI 0)] ⟨rfl,trivial⟩)
theorem yP {i:(List Entry)} {f:Player} {e:Window} {r:Int} (a:lI i f e=some r) :
  FnM Tryz.prog 30 [(vL Entry.enc i),(.d (.agg (Player.enc f))),(.d (.agg (Window.enc e)))] [] (vI r) []:=by
 refine FnM.of_wH ⟨Tryz.prog,21,[],[]⟩ rfl Tryz.func30 rfl rfl (lb_ rfl) (by kernel_rfl) ?_
 unfold lI at a
 refine aj (dQ 0 (.inl rfl) (Player.v f) rfl rfl wz (λn=>dQ 0 (.inl rfl) [(vI e.From),(vI e.To)] rfl rfl wz (λo=>aa (vI 0) (ah (au (aj (aa (vL Entry.enc i) ?_)))))))
 obtain ⟨b,m,a⟩:=bind_some a
 refine aF (iW m) rfl hb22 rfl rfl rfl rfl wz (aa (vI b) (ah (aj (aa (vI b) (aa (vB (b != 0)) (ah ?_))))))
 rcases ak a with⟨h,a⟩|⟨h,a⟩
 ·refine aB rfl h (aj (aa (vI b) (aa (vI b) (ah ?_))))
  obtain rfl:=af a
  exact aC (aL [(vI b)] ⟨rfl,trivial⟩)
 ·refine aA rfl h (ax (au (aj (ay 0 0 il ft yM Bg rfl rfl (.d (.agg (Player.enc f))) rfl wz ?_))))
  obtain ⟨c,k,a⟩:=bind_some a
  refine aF (pq k) rfl hb48 rfl rfl rfl rfl wz (aa (vI c) (ah (aj (aa (vI c) (aa (vB (c != 0)) (ah ?_))))))
  rcases ak a with⟨g,a⟩|⟨g,a⟩
  ·refine aB rfl g (aj (aa (vI c) (aa (vI c) (ah ?_))))
   obtain rfl:=af a
   exact aC (aL [(vI c)] ⟨rfl,trivial⟩)
  ·refine aA rfl g (ax (aj (ay 0 1 il ft mM tK rfl rfl (.d (.agg (Window.enc e))) rfl wz ?_)))
   obtain ⟨j,l,a⟩:=bind_some a
   refine aF (pg l) rfl hb53 rfl rfl rfl rfl wz (aa (vI j) (ah ?_))
   obtain rfl:=af a
   exact aC (aL [(vI j)] ⟨rfl,trivial⟩)
section
variable [dM:DM]
theorem yK {a:Span} {b:Span} {r:Int} (c:iR a b=some r) :
  FnM Tryz.prog 54 [(.d (.agg (Span.enc a))),(.d (.agg (Span.enc b)))] [] (vI r) []:=by
 refine FnM.of_wH ⟨Tryz.prog,12,[],[]⟩ rfl Tryz.func54 rfl rfl (lb_ rfl) (by kernel_rfl) ?_
 unfold iR at c
 refine aj (dQ 0 (.inl rfl) (Span.v a) rfl (bX (nU _ _) (bX rfl (bX rfl rfl))) wz (λg=>dQ 0 (.inl rfl) (Span.v b) rfl (bX (nU _ _) (bX rfl (bX rfl rfl))) wz (λh=>aa (vI 0) (ah (aj (aH Bf rfl 1 rfl wz (aH jB rfl 1 rfl wz (ay 0 0 il ft sz3 ag3 rfl rfl (vI a.f_time.From) rfl wz (aH Bf rfl 1 rfl wz (aH jB rfl 1 rfl wz (ay 0 1 il ft sz3 ag3 rfl rfl (vI b.f_time.From) rfl wz ?_)))))))))))
 obtain ⟨e,f,c⟩:=bind_some c
 refine aF (jH f) rfl QT rfl rfl rfl rfl wz (aa (vI e) (ah ?_))
 obtain rfl:=af c
 exact aC (aL [(vI e)] ⟨rfl,trivial⟩)
end
theorem og {x r:(List Span)} (c:gZ x=some r) :
  FnM Tryz.prog 51 [(dV (aG 0) 3 x),(.fn 54 [])] (([]:List Box)++gI 3 Span.enc x) (.tup []) (([]:List Box).map some++gT x (gB 3 Span.enc r)) :=
 II (dp:=8) (λ_=>(iU (Pf (λ_=>(iU rfl (iU rfl (iU rfl (iU rfl (iU rfl (iU rfl (iU rfl (iU (J4 (λ_=>(iU rfl rfl))) (iU rfl (iU rfl (iU rfl (iU (J4 (λ_=>(iU rfl rfl))) (iU rfl rfl))))))))))))))) (iU rfl (iU rfl rfl)))) (E:=Span.enc) (F:=λa b=>iR a b) (λ_=>rfl) (λa b r h=>yK (dM:=dmT) h) hb54 (λβ _ enc hk h1 cf hO g cb blk off cap d w eg hcmp hH hblk hsz=>Tryz.slices_SortFunc_eq_f51 3 Tryz.isAgg76 Tryz.sizeOf76 enc hk h1 cf hO g cb blk off cap d w eg hcmp hH hblk hsz) (λp cap fv w=>Tryz.slices_SortFunc_none_f51 (α:=Nat) p cap fv w) c
theorem yE {a:Window} {b:Window} {r:Window} (c:tJ a b=some r) :
  FnM Tryz.prog 69 [(.d (.agg (Window.enc a))),(.d (.agg (Window.enc b)))] [] (.d (.agg (Window.enc r))) []:=by
 refine FnM.of_wH ⟨Tryz.prog,16,[],[]⟩ rfl Tryz.func69 rfl rfl (lb_ rfl) (by kernel_rfl) ?_
 unfold tJ at c
 refine aj (dQ 0 (.inl rfl) [(vI a.From),(vI a.To)] rfl rfl wz (λe=>dQ 0 (.inl rfl) [(vI b.From),(vI b.To)] rfl rfl wz (λf=>bZ 0 (.inl rfl) z46 rfl wz (λg=>ah (aj (aH jB rfl 0 rfl wz (ay 0 0 il ft sz3 ag3 rfl rfl (vI a.From) rfl wz (aH jB rfl 0 rfl wz (ay 0 1 il ft sz3 ag3 rfl rfl (vI b.From) rfl wz (si (vI (ol a.From b.From)) rfl (.inr rfl) wz (aH kz rfl 1 rfl wz (ay 0 0 il ft sz3 ag3 rfl rfl (vI a.To) rfl wz (aH kz rfl 1 rfl wz (ay 0 1 il ft sz3 ag3 rfl rfl (vI b.To) rfl wz (si (vI (u7 a.To b.To)) rfl (.inl rfl) wz (aK (.d (.agg (Window.enc (⟨(ol a.From b.From),(u7 a.To b.To)⟩:Window)))) wz (by kernel_rfl) (dY 0 il ft 2 mM rfl rfl [(vI (ol a.From b.From)),(vI (u7 a.To b.To))] rfl wz (ah ?_))))))))))))))))))
 obtain rfl:=af c
 exact aC (aL [(.d (.agg (Window.enc (⟨(ol a.From b.From),(u7 a.To b.To)⟩:Window))))] ⟨⟨2,_,_,_,_,_,_,_,rfl,rfl,mM,tK,rfl⟩,trivial⟩)
theorem nX {x r:(List Int)} (a:dU x=some r) :
  FnM Tryz.prog 86 [(dV (aG 0) 1 x)] (([]:List Box)++gI 1 eI x) (.tup []) (([]:List Box).map some++gT x (gB 1 eI r)) :=
 Pz Tryz.slices_Sort_int Tryz.slices_Sort_int_none a
theorem l6 {b:(List Int)} {r:(List Int)} (g:cZ b=some r) :
  FnM Tryz.prog 87 [(dV (aG 0) 1 b)] (([]:List Box)++gI 1 eI b) (vL eI r) (([]:List Box).map some++gT b none):=by
 refine FnM.of_wHv ⟨Tryz.prog,61,[],[]⟩ rfl Tryz.func87 rfl rfl (lb_ rfl) (by kernel_rfl) ?_
 unfold cZ at g
 refine aj (aa .nil (ah (au (aj (aa (dV (aG 0) 1 b) (BJ sN rfl wz (aa (vB (decide ((b.length:Int)<2))) (ah ?_))))))))
 rcases ak g with⟨w,g⟩|⟨w,g⟩
 ·refine aB rfl w (aj (aa (dV (aG 0) 1 b) (aa (dV (aG 0) 1 b) (ah (jb 0 rfl (Bv 0 0 rfl rfl (Bv 2 0 rfl rfl (Bv 6 0 rfl rfl (Bv 9 0 rfl rfl (Ji (i:=0) rfl ?_))))))))))
  obtain rfl:=af g
  exact aC (Hz (bs:=([]:List Box)) (os:=([]:List Box)) (xs:=b) (o:=none) (.inr rfl) [(vL eI b)] ⟨rfl,trivial⟩ rfl rfl rfl rfl rfl (by kernel_rfl) Cc rfl)
 ·refine aA rfl w (ax (au (aj (aa (vI 1) (ah ?_)))))
  obtain ⟨Ã,A,g⟩:=bind_some g
  obtain ⟨Â,A⟩:=dJ A
  refine gq (λ(c:Int)=>[(0,(dV (aG 0) 1 b))]) (λ(c:Int)=>[((aG 0),gB 1 eI b)]) (λ(u:Nat)=>(λ(c:Int)=>[(0,(dV (aG 0) 1 b)),(3,(vI c))])) (λs=>bn b s) Ã Â 1 A rfl (aI rfl) ?_ ?_
  ·rintro ⟨u,c⟩ j
   dsimp only at j
   cases u with
   | zero=>cases j
   | succ u =>
    obtain ⟨R,d,j⟩:=bind_some j
    unfold bn at d
    refine au (aj (aa (vI c) (aa (dV (aG 0) 1 b) (BJ sN rfl wz (aa (vB (decide (c<(b.length:Int)))) (ah ?_))))))
    rcases ak d with⟨v,d⟩|⟨v,d⟩
    ·refine aB rfl v (ax (au (aM (au (bI (aa (dV (aG 0) 1 b) (aa (vI c) ?_)))))))
     obtain ⟨_,K,d⟩:=bind_some d
     refine qC ko rfl rfl (jM K) (gK K) wz ?_
     obtain ⟨G,U,d⟩:=bind_some d
     refine nI 3 0 (.inr (by kernel_rfl)) (λ_ _ ag=>trivial) sz3 ag3 rfl rfl U (vI G) rfl wz (aa (dV (aG 0) 1 b) (aa (vI c) (aa (vI (w64 (c-1))) ?_)))
     obtain ⟨_,L,d⟩:=bind_some d
     refine qC ko rfl rfl (jM L) (gK L) wz ?_
     obtain ⟨H,W,d⟩:=bind_some d
     refine nI 8 0 (.inr (by kernel_rfl)) (λ_ _ ag=>⟨.inl ⟨rfl,rfl⟩,trivial⟩) sz3 ag3 rfl rfl W (vI H) rfl wz (aa (vB (G==H)) (ah ?_))
     rcases ak d with⟨x,d⟩|⟨x,d⟩
     ·refine aB rfl x (aj (aa (dV (aG 0) 1 b) (aa (vI c) ?_)))
      obtain ⟨_,h,d⟩:=bind_some d
      replace h:=Mj h
      refine eU (v':=(vV (aG 0) 1 b)) 0 rfl (Ck h) (eU (v':=(vV (aG 0) 1 b)) 11 rfl (Ck h) (eU (v':=(vV (aG 0) 1 b)) 16 rfl (Ck h) (eU (v':=(vV (aG 0) 1 b)) 20 rfl (Ck h) (eU (v':=(vV (aG 0) 1 b)) 26 rfl (Ck h) (Io 0 rfl (EO h) ?_)))))
      obtain ⟨_,T,d⟩:=bind_some d
      refine Hd sN sz3 rfl rfl T wz (aa (.vs (aG 0) 1 ((c).toNat) (((b.length:Int)).toNat-(c).toNat)) (ah (au (aj (aa (vI 1) (ah ?_))))))
      obtain ⟨Ä,B,d⟩:=bind_some d
      obtain ⟨Á,B⟩:=dJ B
      refine gq (λ(a:(List Int)×Int×Int)=>[(0,(vV (aG 0) 1 a.1)),(3,(vI a.2.1))]) (λ(a:(List Int)×Int×Int)=>[((aG 0),some (bV 1 eI a.1))]) (λ(t:Nat)=>(λ(a:(List Int)×Int×Int)=>[(0,(vV (aG 0) 1 a.1)),(3,(vI a.2.1)),(4,(.vs (aG 0) 1 ((c).toNat) (((b.length:Int)).toNat-(c).toNat))),(5,(vI a.2.2))])) (λs=>cK b c s) Ä Á (b,c,1) B rfl (aI rfl) ?_ ?_
      ·rintro ⟨t,a⟩ k
       dsimp only at k
       cases t with
       | zero=>cases k
       | succ t =>
        obtain ⟨R,e,k⟩:=bind_some k
        unfold cK at e
        refine au (aj (aa (vI a.2.2) (aa (.vs (aG 0) 1 ((c).toNat) (((b.length:Int)).toNat-(c).toNat)) (h_lenp sN rfl wz (aa (vB (decide (a.2.2<(((((b.length:Int)).toNat-(c).toNat):Nat):Int)))) (ah ?_))))))
        rcases ak e with⟨y,e⟩|⟨y,e⟩
        ·refine aB rfl y (ax (au (aM (au (bI (aa (.vs (aG 0) 1 ((c).toNat) (((b.length:Int)).toNat-(c).toNat)) (aa (vI a.2.2) ?_)))))))
         obtain ⟨_,M,e⟩:=bind_some e
         refine BU ko rfl rfl (QB M) (L6 M) wz ?_
         obtain ⟨I,X,e⟩:=bind_some e
         refine Ik 3 0 (.inr (by kernel_rfl)) (λ_ _ ag=>trivial) sz3 ag3 rfl rfl X (vI I) rfl wz (aa (.vs (aG 0) 1 ((c).toNat) (((b.length:Int)).toNat-(c).toNat)) (aa (vI a.2.2) (aa (vI (w64 (a.2.2-1))) ?_)))
         obtain ⟨_,N,e⟩:=bind_some e
         refine BU ko rfl rfl (QB N) (L6 N) wz ?_
         obtain ⟨J,Y,e⟩:=bind_some e
         refine Ik 8 0 (.inr (by kernel_rfl)) (λ_ _ ag=>⟨.inl ⟨rfl,rfl⟩,trivial⟩) sz3 ag3 rfl rfl Y (vI J) rfl wz (aa (vB (I != J)) (ah ?_))
         obtain ⟨n,f,e⟩:=bind_some e
         refine aP [(0,(vV (aG 0) 1 n.1)),(3,(vI n.2)),(4,(.vs (aG 0) 1 ((c).toNat) (((b.length:Int)).toNat-(c).toNat))),(5,(vI a.2.2))] [((aG 0),some (bV 1 eI n.1))] ?_ ?_
         ·rcases ak f with⟨z,f⟩|⟨z,f⟩
          ·refine aB rfl z (aj (aa (vV (aG 0) 1 a.1) (aa (vI a.2.1) (aa (.vs (aG 0) 1 ((c).toNat) (((b.length:Int)).toNat-(c).toNat)) (aa (vI a.2.2) ?_)))))
           obtain ⟨_,O,f⟩:=bind_some f
           refine BU ko rfl rfl (QB O) (L6 O) wz ?_
           obtain ⟨p,Z,f⟩:=bind_some f
           refine Ik 0 0 il ft sz3 ag3 rfl rfl Z (vI p) rfl wz ?_
           obtain ⟨_,P,f⟩:=bind_some f
           refine BU ko rfl rfl (jM P) (gK P) wz ?_
           obtain ⟨Å,À,f⟩:=bind_some f
           refine PS 0 il ft 0 sz3 rfl rfl À p rfl wz (eU (v':=(vV (aG 0) 1 (a.1.set (0+(a.2.1).toNat) p))) 0 rfl (wI (by simp)) (eU (v':=(vV (aG 0) 1 (a.1.set (0+(a.2.1).toNat) p))) 45 rfl (wI (by simp)) (ah (av (aa (vI a.2.1) (aa (vI (w64 (a.2.1+1))) (aa (vI (w64 (a.2.1+1))) (ah ?_))))))))
           obtain rfl:=af f
           exact cu
          ·refine aA rfl z (ax ?_)
           obtain rfl:=af f
           exact cu
         ·rintro ⟨⟩ _ Q F l m
          refine aN _ l m (av (aa (vI a.2.2) (aa (vI (w64 (a.2.2+1))) (aa (vI (w64 (a.2.2+1))) (ah ?_)))))
          obtain rfl:=af e
          exact aU (t,(n.1,n.2,(w64 (a.2.2+1)))) k (ls_ _) rfl (aI rfl)
        ·refine aA rfl y (aS ?_)
         obtain rfl:=af e
         obtain rfl:=af k
         exact aV ((a.1,a.2.1,a.2.2)) rfl rfl (aI rfl)
      ·rintro a C Q F l m
       subst C
       refine aN _ l m (aj (aa (vV (aG 0) 1 a.1) (aa (vI a.2.1) ?_)))
       obtain ⟨_,q,d⟩:=bind_some d
       refine Hd sN sz3 rfl rfl q wz (M8 (i:=0) 0 il ft 0 Jy sz3 z3 rfl rfl rfl (by decide) rfl (tY q) rfl wz (eU (v':=(vV (aG 0) 1 (a.1.take ((a.2.1).toNat)++List.replicate (((a.1.length:Int)).toNat-(a.2.1).toNat) 0++a.1.drop (((a.2.1).toNat)+(((a.1.length:Int)).toNat-(a.2.1).toNat))))) 0 rfl (wI (zW (tY q))) (eU (v':=(vV (aG 0) 1 (a.1.take ((a.2.1).toNat)++List.replicate (((a.1.length:Int)).toNat-(a.2.1).toNat) 0++a.1.drop (((a.2.1).toNat)+(((a.1.length:Int)).toNat-(a.2.1).toNat))))) 54 rfl (wI (zW (tY q))) (ah (aj (aa (vV (aG 0) 1 (a.1.take ((a.2.1).toNat)++List.replicate (((a.1.length:Int)).toNat-(a.2.1).toNat) 0++a.1.drop (((a.2.1).toNat)+(((a.1.length:Int)).toNat-(a.2.1).toNat)))) (aa (vI a.2.1) ?_)))))))
       obtain ⟨_,E,d⟩:=bind_some d
       refine KU sN sz3 rfl rfl E wz (aa (.vs (aG 0) 1 0 ((a.2.1).toNat)) (ah (Kh 0 rfl (Ja 0 0 rfl rfl (Px 2 0 rfl rfl (tY E) (Ja 54 0 rfl rfl (Ja 57 0 rfl rfl (Px 59 0 rfl rfl (tY E) (Ji (i:=0) rfl ?_)))))))))
       obtain rfl:=af d
       obtain rfl:=af j
       obtain rfl:=af g
       exact aC (Hz (bs:=([]:List Box)) (os:=([]:List Box)) (xs:=b) (o:=none) (.inr rfl) [(vL eI (cutL (a.1.take ((a.2.1).toNat)++List.replicate (((a.1.length:Int)).toNat-(a.2.1).toNat) 0++a.1.drop (((a.2.1).toNat)+(((a.1.length:Int)).toNat-(a.2.1).toNat))) 0 ((a.2.1).toNat)))] ⟨rfl,trivial⟩ rfl rfl rfl rfl rfl (by kernel_rfl) Cc rfl)
     ·refine aA rfl x (ax (av (aa (vI c) (aa (vI (w64 (c+1))) (aa (vI (w64 (c+1))) (ah ?_))))))
      obtain rfl:=af d
      exact aU (u,(w64 (c+1))) j (ls_ _) rfl (aI rfl)
    ·refine aA rfl v (aS ?_)
     obtain rfl:=af d
     obtain rfl:=af j
     exact aV (c) rfl rfl (aI rfl)
  ·rintro c C Q F l m
   subst C
   refine aN _ l m (aj (aa (dV (aG 0) 1 b) (aa (dV (aG 0) 1 b) (ah (jb 0 rfl (Bv 0 0 rfl rfl (Bv 2 0 rfl rfl (Bv 60 0 rfl rfl (Ji (i:=0) rfl ?_)))))))))
   obtain rfl:=af g
   exact aC (Hz (bs:=([]:List Box)) (os:=([]:List Box)) (xs:=b) (o:=none) (.inr rfl) [(vL eI b)] ⟨rfl,trivial⟩ rfl rfl rfl rfl rfl (by kernel_rfl) Cc rfl)
end Go.Proofs.YtadpbmfnnlkdlabGreatDoor.Law

