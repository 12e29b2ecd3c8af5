/-
 The machine computes these plain functions (written by a program of ours).
-/
import Derived.Test.YtadpbmfnnlkdlabGreatDoorFacts
import Derived.Test.YtadpbmfnnlkdlabGreatDoorDefs
import Derived.Test.YtadpbmfnnlkdlabGreatDoorPf5
open Go Go.Eng Go.Proofs
namespace Go.Proofs.YtadpbmfnnlkdlabGreatDoor.Law
set_option maxRecDepth 100000
set_option linter.unusedVariables false
set_option maxHeartbeats 1000000
theorem ve {b:(List Campaign)} {r:Int} (h:ib b=some r) :
  FnM Tryz.prog 70 [(vL Campaign.enc b)] [] (vI r) []:=by
 refine FnM.of_wH ⟨Tryz.prog,73,[],[]⟩ rfl Tryz.func70 rfl rfl (lb_ rfl) (by kernel_rfl) ?_
 unfold ib at h
 refine aj (aa (vI 0) (ah (au (aj (aa (vL Campaign.enc b) (bS un129 rfl wz (aa (vB (decide ((b.length:Int)>30))) (ah ?_))))))))
 rcases ak h with⟨A,h⟩|⟨A,h⟩
 ·refine aB rfl A (aj (aa (vI 2) (ah ?_)))
  obtain rfl:=af h
  exact aC (aL [(vI 2)] ⟨rfl,trivial⟩)
 ·refine aA rfl A (ax (au (aj (aa (vL Campaign.enc b) (bS un129 rfl wz (aa (vI 0) (ah ?_)))))))
  obtain ⟨À,K,h⟩:=bind_some h
  obtain ⟨O,K⟩:=aW K
  refine cz (λ(q:Unit)=>[]) (λ(q:Unit)=>[]) (λ(f:Nat)=>(λ(q:Unit)=>[(0,(vL Campaign.enc b)),(9,(vL Campaign.enc b)),(10,(vI (b.length:Int))),(11,(vI (f:Int)))])) (λk x s=>fP b k x s) À b () K rfl (aI rfl) ?_ ?_
  ·rintro ⟨f,L,q⟩ ⟨i,n⟩
   dsimp only at i n
   cases L with
   | nil =>
    obtain rfl:=af i
    refine aj (aa (vB (decide ((f:Int)<(b.length:Int)))) (ah ?_))
    refine au (aA rfl (drop_nil n) (aS ?_))
    exact aV (q) rfl rfl (aI rfl)
   | cons e L =>
    obtain ⟨È,a,i⟩:=bind_some i
    refine aj (aa (vB (decide ((f:Int)<(b.length:Int)))) (ah ?_))
    refine au (aB rfl (bv n) (ax ?_))
    unfold fP at a
    refine au (aM (aj (aa (vI (f:Int)) (dR Qh rfl rfl (bJ n) rfl wz (bN sz91 ag91 rfl (.d (.agg (Campaign.enc e))) rfl wz (bZ 0 (.inl rfl) z91 rfl wz (λo=>aa (vI (f:Int)) (dY 0 il ft 0 sz91 rfl rfl (Campaign.v e) rfl wz (ah (au (aM (au ?_))))))))))))
    obtain ⟨Å,g,a⟩:=bind_some a
    refine aP [(0,(vL Campaign.enc b)),(3,(vI (f:Int))),(4,(.ref o 0 0)),(9,(vL Campaign.enc b)),(10,(vI (b.length:Int))),(11,(vI (f:Int))),(16,(vB Å))] [(o,some (.cells 8 (Campaign.v e)))] ?_ ?_
    ·refine av (aH Ms rfl 0 rfl wz (ay 0 0 il ft sz9 ag9 rfl rfl (vS e.Key) rfl wz ?_))
     obtain ⟨Á,Q,g⟩:=bind_some g
     refine aF (fK Q) rfl Dk rfl rfl rfl rfl wz (aa (vB (!Á)) ?_)
     rcases ak g with⟨y,g⟩|⟨y,g⟩
     ·refine aD rfl y wz (ae (ae (ae (ae (dw (wn rfl rfl) (dw (wn rfl rfl) (dw (wn rfl rfl) (dw (wn rfl rfl) (ae (aa (vB true) (aa (vB true) (ah ?_))))))))))))
      obtain rfl:=af g
      exact cu
     ·refine aD rfl y wz (aH Qv rfl 1 rfl wa (ay 0 0 il ft sz9 ag9 rfl rfl (vS e.Class) rfl wa (aK (vB (sNe e.Class (⟨#[]⟩:ByteArray))) wa rfl ?_)))
      rcases ak g with⟨z,g⟩|⟨z,g⟩
      ·refine aD rfl z wa (aH Qv rfl 1 rfl wa (ay 0 0 il ft sz9 ag9 rfl rfl (vS e.Class) rfl wa ?_))
       obtain ⟨u,R,g⟩:=bind_some g
       refine aF (fK R) rfl Dk rfl rfl rfl rfl wa (aK (vB (!u)) wa rfl (aK (vB (!u)) wa rfl (aa (vB (!u)) (aa (vB (!u)) (ah ?_)))))
       obtain rfl:=af g
       exact cu
      ·refine aD rfl z wa (ae (ae (ae (ae (aK (vB false) wa rfl (aa (vB false) (aa (vB false) (ah ?_))))))))
       obtain rfl:=af g
       exact cu
    ·rintro ⟨⟩ _ M w l m
     refine aN _ l m ?_
     rcases ak a with⟨B,a⟩|⟨B,a⟩
     ·refine aB rfl B (aj (aa (vI 5) (ah ?_)))
      obtain rfl:=af a
      obtain rfl:=af i
      obtain rfl:=af h
      exact aC (aL [(vI 5)] ⟨rfl,trivial⟩)
     ·refine aA rfl B (au ?_)
      obtain ⟨Æ,j,a⟩:=bind_some a
      refine aP [(0,(vL Campaign.enc b)),(4,(.ref o 0 0)),(9,(vL Campaign.enc b)),(10,(vI (b.length:Int))),(11,(vI (f:Int))),(32,(vB Æ))] [(o,some (.cells 8 (Campaign.v e)))] ?_ ?_
      ·refine bI (aa (vI (f:Int)) (aa (vB (decide ((f:Int)>0))) ?_))
       rcases ak j with⟨C,j⟩|⟨C,j⟩
       ·refine aD rfl C wz (aH Ms rfl 0 rfl wa (ay 4 0 (.inr (by kernel_rfl)) (λ_ _ ag=>trivial) sz9 ag9 rfl rfl (vS e.Key) rfl wa (aK (vL Campaign.enc b) wa rfl (aK (vI (f:Int)) wa rfl (aK (vI (w64 ((f:Int)-1))) wa rfl ?_)))))
        obtain ⟨t,Z,j⟩:=bind_some j
        refine dR Qh rfl rfl Z rfl wa (oJ Ms rfl (Campaign.enc t) rfl rfl wa (bN sz9 ag9 rfl (vS t.Key) rfl wa (aK (vB (sLe e.Key t.Key)) wa rfl (aa (vB (sLe e.Key t.Key)) (aa (vB (sLe e.Key t.Key)) (ah ?_))))))
        obtain rfl:=af j
        exact cu
       ·refine aD rfl C wz (ae (ae (ae (ae (ae (ae (ae (ae (ae (aa (vB false) (aa (vB false) (ah ?_))))))))))))
        obtain rfl:=af j
        exact cu
      ·rintro ⟨⟩ _ M w l m
       refine aN _ l m ?_
       rcases ak a with⟨E,a⟩|⟨E,a⟩
       ·refine aB rfl E (aj (aa (vI 7) (ah ?_)))
        obtain rfl:=af a
        obtain rfl:=af i
        obtain rfl:=af h
        exact aC (aL [(vI 7)] ⟨rfl,trivial⟩)
       ·refine aA rfl E (au ?_)
        obtain ⟨Ç,c,a⟩:=bind_some a
        refine aP [(0,(vL Campaign.enc b)),(4,(.ref o 0 0)),(9,(vL Campaign.enc b)),(10,(vI (b.length:Int))),(11,(vI (f:Int))),(46,(vB Ç))] [(o,some (.cells 8 (Campaign.v e)))] ?_ ?_
        ·refine av (aH Di rfl 2 rfl wz (ay 0 0 il ft mM tK rfl rfl (.d (.agg (Window.enc e.Time))) rfl wz ?_))
         obtain ⟨Â,T,c⟩:=bind_some c
         refine aF (Cx T) rfl hb100 rfl rfl rfl rfl wz (aa (vB (!Â)) ?_)
         rcases ak c with⟨F,c⟩|⟨F,c⟩
         ·refine aD rfl F wz (ae (ae (ae (aa (vB true) (aa (vB true) (ae (ae (ae (aa (vB true) (aa (vB true) (ae (ae (ae (aa (vB true) (aa (vB true) (ah ?_))))))))))))))))
          obtain rfl:=af c
          exact cu
         ·refine aD rfl F wz (aH MS rfl 5 rfl wa (ay 0 0 il ft sz3 ag3 rfl rfl (vI e.Goal) rfl wa ?_))
          obtain ⟨Ã,U,c⟩:=bind_some c
          refine aF (bH U) rfl tT rfl rfl rfl rfl wa (aa (vB Ã) ?_)
          rcases ak c with⟨G,c⟩|⟨G,c⟩
          ·refine aD rfl G wz (ae (ae (ae (aa (vB true) (aa (vB true) (ae (ae (ae (aa (vB true) (aa (vB true) (ah ?_)))))))))))
           obtain rfl:=af c
           exact cu
          ·refine aD rfl G wz (aH pl91_5 rfl 6 rfl wa (ay 0 0 il ft sz3 ag3 rfl rfl (vI e.Most) rfl wa ?_))
           obtain ⟨Ä,W,c⟩:=bind_some c
           refine aF (bH W) rfl tT rfl rfl rfl rfl wa (aa (vB Ä) ?_)
           rcases ak c with⟨H,c⟩|⟨H,c⟩
           ·refine aD rfl H wz (ae (ae (ae (aa (vB true) (aa (vB true) (ah ?_))))))
            obtain rfl:=af c
            exact cu
           ·refine aD rfl H wz (aH pl91_6 rfl 7 rfl wa (ay 0 0 il ft sz3 ag3 rfl rfl (vI e.Cents) rfl wa ?_))
            obtain ⟨N,X,c⟩:=bind_some c
            refine aF (bH X) rfl tT rfl rfl rfl rfl wa (aa (vB N) (aa (vB N) (ah ?_)))
            obtain rfl:=af c
            exact cu
        ·rintro ⟨⟩ _ M w l m
         refine aN _ l m ?_
         rcases ak a with⟨I,a⟩|⟨I,a⟩
         ·refine aB rfl I (aj (aa (vI 1) (ah ?_)))
          obtain rfl:=af a
          obtain rfl:=af i
          obtain rfl:=af h
          exact aC (aL [(vI 1)] ⟨rfl,trivial⟩)
         ·refine aA rfl I (ax (aj (aH pl91_3 rfl 4 rfl wz (ay 0 0 il ft tV xn rfl rfl (vL eS e.Tags) rfl wz ?_))))
          obtain ⟨p,Y,a⟩:=bind_some a
          refine aF (zJ Y) rfl hb101 rfl rfl rfl rfl wz (aa (vI p) (ah (aj (aa (vI p) (aa (vB (p != 0)) (ah ?_))))))
          rcases ak a with⟨J,a⟩|⟨J,a⟩
          ·refine aB rfl J (aj (aa (vI p) (aa (vI p) (ah ?_))))
           obtain rfl:=af a
           obtain rfl:=af i
           obtain rfl:=af h
           exact aC (aL [(vI p)] ⟨rfl,trivial⟩)
          ·refine aA rfl J (ax (av (dX (bD n O) wz rfl (aa (vI ((f+1:Nat):Int)) (ah ?_)))))
           obtain rfl:=af a
           exact aU (f+1,L,()) ⟨i,aQ n⟩ (ls_ _) rfl (aI rfl)
  ·rintro q P M w l m
   subst P
   refine aN _ l m (aj (aa (vI 0) (ah ?_)))
   obtain rfl:=af h
   exact aC (aL [(vI 0)] ⟨rfl,trivial⟩)
theorem He {a:Campaign} {c:Int} {r:Int} (b:vJ a c=some r) :
  FnM Tryz.prog 71 [(.d (.agg (Campaign.enc a))),(vI c)] [] (vI r) []:=by
 refine FnM.of_wH ⟨Tryz.prog,35,[],[]⟩ rfl Tryz.func71 rfl rfl (lb_ rfl) (by kernel_rfl) ?_
 unfold vJ at b
 refine aj (dQ 0 (.inl rfl) (Campaign.v a) rfl rfl wz (λi=>aa (vI 0) (ah (au (aM (aj (aa (vI c) (aH Di rfl 2 rfl wz (aH jB rfl 2 rfl wz (ay 0 0 il ft sz3 ag3 rfl rfl (vI a.Time.From) rfl wz (aa (vB (decide (c<a.Time.From))) (aa (vB (decide (c<a.Time.From))) (ah ?_)))))))))))))
 rcases ak b with⟨e,b⟩|⟨e,b⟩
 ·refine aB rfl e (aj (aa (vI 0) (ah ?_)))
  obtain rfl:=af b
  exact aC (aL [(vI 0)] ⟨rfl,trivial⟩)
 ·refine aA rfl e (aj (aa (vI c) (aH Di rfl 2 rfl wz (aH kz rfl 3 rfl wz (ay 0 0 il ft sz3 ag3 rfl rfl (vI a.Time.To) rfl wz (aa (vB (decide (c>=a.Time.To))) (aa (vB (decide (c>=a.Time.To))) (ah ?_))))))))
  rcases ak b with⟨f,b⟩|⟨f,b⟩
  ·refine aB rfl f (aj (aH MS rfl 5 rfl wz (ay 0 0 il ft sz3 ag3 rfl rfl (vI a.Goal) rfl wz (aa (vI a.Goal) (ah ?_)))))
   obtain rfl:=af b
   exact aC (aL [(vI a.Goal)] ⟨rfl,trivial⟩)
  ·refine aA rfl f (ax (aj (aH MS rfl 5 rfl wz (ay 0 0 il ft sz3 ag3 rfl rfl (vI a.Goal) rfl wz (aa (vI c) (aH Di rfl 2 rfl wz (aH jB rfl 2 rfl wz (ay 0 0 il ft sz3 ag3 rfl rfl (vI a.Time.From) rfl wz (aa (vI (w64 (c-a.Time.From))) (aa (vI (w64 (a.Goal*(w64 (c-a.Time.From))))) (aH Di rfl 2 rfl wz (aH kz rfl 3 rfl wz (ay 0 0 il ft sz3 ag3 rfl rfl (vI a.Time.To) rfl wz (aH Di rfl 2 rfl wz (aH jB rfl 2 rfl wz (ay 0 0 il ft sz3 ag3 rfl rfl (vI a.Time.From) rfl wz (aa (vI (w64 (a.Time.To-a.Time.From))) ?_)))))))))))))))))
   obtain ⟨g,h,b⟩:=bind_some b
   refine QM rfl rfl h wz (aa (vI g) (ah (aN (H0:=([(i,some (.cells 8 (Campaign.v a)))]:Hp)) ([(4,(vI g))]:SL_) (by kernel_rfl) (wy (by kernel_rfl)) ?_)))
   obtain rfl:=af b
   exact aC (aL [(vI g)] ⟨rfl,trivial⟩)
theorem FP {b:Campaign} {e:Int} {r:Int×Int} (a:rA b e=some r) :
  FnM Tryz.prog 36 [(.d (.agg (Campaign.enc b))),(vI e)] [] (.tup [(vI r.1),(vI r.2)]) []:=by
 refine FnM.of_wH ⟨Tryz.prog,19,[],[]⟩ rfl Tryz.func36 rfl rfl (lb_ rfl) (by kernel_rfl) ?_
 unfold rA at a
 refine aj (dQ 0 (.inl rfl) (Campaign.v b) rfl rfl wz (λm=>aa (vI 0) (aa (vI 0) (ah (au (aj (ay 0 0 il ft sz91 ag91 rfl rfl (.d (.agg (Campaign.enc b))) rfl wz (eP (([b]:List Campaign).map Campaign.enc) Qh ez129 rfl rfl rfl rfl rfl wz ?_))))))))
 obtain ⟨c,j,a⟩:=bind_some a
 refine aF (ve j) rfl hb70 rfl rfl rfl rfl wz (aa (vI c) (ah (aj (aa (vI c) (aa (vB (c != 0)) (ah ?_))))))
 rcases ak a with⟨f,a⟩|⟨f,a⟩
 ·refine aB rfl f (aj (aa (vI c) (aa (vI 0) (aa (vI c) (ah ?_)))))
  obtain rfl:=af a
  exact aC (aL [(vI 0),(vI c)] ⟨rfl,⟨rfl,trivial⟩⟩)
 ·refine aA rfl f (ax (au (aj (aa (vI e) ?_))))
  obtain ⟨l,k,a⟩:=bind_some a
  refine aF (iC k) rfl LJ rfl rfl rfl rfl wz (aa (vB (!l)) (ah ?_))
  rcases ak a with⟨g,a⟩|⟨g,a⟩
  ·refine aB rfl g (aj (aa (vI 0) (aa (vI 1) (ah ?_))))
   obtain rfl:=af a
   exact aC (aL [(vI 0),(vI 1)] ⟨rfl,⟨rfl,trivial⟩⟩)
  ·refine aA rfl g (ax (aj (ay 0 0 il ft sz91 ag91 rfl rfl (.d (.agg (Campaign.enc b))) rfl wz (aa (vI e) ?_))))
   obtain ⟨h,i,a⟩:=bind_some a
   refine aF (He i) rfl hb71 rfl rfl rfl rfl wz (aa (vI h) (aa (vI 0) (ah ?_)))
   obtain rfl:=af a
   exact aC (aL [(vI h),(vI 0)] ⟨rfl,⟨rfl,trivial⟩⟩)
theorem yN {b:Beat} {c:Beat} {r:Int} (a:lC b c=some r) :
  FnM Tryz.prog 140 [(.d (.agg (Beat.enc b))),(.d (.agg (Beat.enc c)))] [] (vI r) []:=by
 refine FnM.of_wH ⟨Tryz.prog,17,[],[]⟩ rfl Tryz.func140 rfl rfl (lb_ rfl) (by kernel_rfl) ?_
 unfold lC at a
 refine aj (dQ 0 (.inl rfl) (Beat.v b) rfl rfl wz (λk=>dQ 0 (.inl rfl) (Beat.v c) rfl rfl wz (λl=>aa (vI 0) (ah (au (bI (aH DN rfl 0 rfl wz (ay 1 0 (.inr (by kernel_rfl)) (λ_ _ ag=>trivial) sz9 ag9 rfl rfl (vS b.Player) rfl wz (aH DN rfl 0 rfl wz (ay 3 1 (.inr (by kernel_rfl)) (λ_ _ ag=>⟨.inl ⟨rfl,rfl⟩,trivial⟩) sz9 ag9 rfl rfl (vS c.Player) rfl wz ?_))))))))))
 obtain ⟨i,g,a⟩:=bind_some a
 refine aF (oV g) rfl hb84 rfl rfl rfl rfl wz (aH Gz rfl 1 rfl wz (ay 6 0 (.inr (by kernel_rfl)) (λ_ _ ag=>⟨.inl ⟨rfl,rfl⟩,⟨.inl ⟨rfl,rfl⟩,trivial⟩⟩) sz3 ag3 rfl rfl (vI b.At) rfl wz (aH Gz rfl 1 rfl wz (ay 8 1 (.inr (by kernel_rfl)) (λ_ _ ag=>⟨.inl ⟨rfl,rfl⟩,⟨.inl ⟨rfl,rfl⟩,⟨.inl ⟨rfl,rfl⟩,trivial⟩⟩⟩) sz3 ag3 rfl rfl (vI c.At) rfl wz ?_))))
 obtain ⟨j,h,a⟩:=bind_some a
 refine aF (jH h) rfl QT rfl rfl rfl rfl wz (eP (([i,j]:List Int).map eI) ko yQ rfl rfl rfl rfl rfl wz ?_)
 obtain ⟨e,f,a⟩:=bind_some a
 refine aF (wF f) rfl hb83 rfl rfl rfl rfl wz (aa (vI e) (ah ?_))
 obtain rfl:=af a
 exact aC (aL [(vI e)] ⟨rfl,trivial⟩)
theorem Aq {b:(List Beat)} {r:Int} (g:kX b=some r) :
  FnM Tryz.prog 102 [(vL Beat.enc b)] [] (vI r) []:=by
 refine FnM.of_wH ⟨Tryz.prog,69,[],[]⟩ rfl Tryz.func102 rfl rfl (lb_ rfl) (by kernel_rfl) ?_
 unfold kX at g
 refine aj (aa (vI 0) (ah (au (aj (aa (vL Beat.enc b) (bS un95 rfl wz (aa (vB (decide ((b.length:Int)>500))) (ah ?_))))))))
 rcases ak g with⟨y,g⟩|⟨y,g⟩
 ·refine aB rfl y (aj (aa (vI 2) (ah ?_)))
  obtain rfl:=af g
  exact aC (aL [(vI 2)] ⟨rfl,trivial⟩)
 ·refine aA rfl y (ax (au (aj (aa (vL Beat.enc b) (bS un95 rfl wz (aa (vI 0) (ah ?_)))))))
  obtain ⟨Y,H,g⟩:=bind_some g
  obtain ⟨N,H⟩:=aW H
  refine cz (λ(q:Unit)=>[]) (λ(q:Unit)=>[]) (λ(c:Nat)=>(λ(q:Unit)=>[(0,(vL Beat.enc b)),(8,(vL Beat.enc b)),(9,(vI (b.length:Int))),(10,(vI (c:Int)))])) (λk x s=>jw b k x s) Y b () H rfl (aI rfl) ?_ ?_
  ·rintro ⟨c,I,q⟩ ⟨h,n⟩
   dsimp only at h n
   cases I with
   | nil =>
    obtain rfl:=af h
    refine aj (aa (vB (decide ((c:Int)<(b.length:Int)))) (ah ?_))
    refine au (aA rfl (drop_nil n) (aS ?_))
    exact aV (q) rfl rfl (aI rfl)
   | cons e I =>
    obtain ⟨Ä,a,h⟩:=bind_some h
    refine aj (aa (vB (decide ((c:Int)<(b.length:Int)))) (ah ?_))
    refine au (aB rfl (bv n) (ax ?_))
    unfold jw at a
    refine au (aM (aj (aa (vI (c:Int)) (dR OW rfl rfl (bJ n) rfl wz (bN Od ag94 rfl (.d (.agg (Beat.enc e))) rfl wz (bZ 0 (.inl rfl) z94 rfl wz (λp=>aa (vI (c:Int)) (dY 0 il ft 0 Od rfl rfl (Beat.v e) rfl wz (ah (aM (aj (aH DN rfl 0 rfl wz (ay 0 0 il ft sz9 ag9 rfl rfl (vS e.Player) rfl wz ?_)))))))))))))
    obtain ⟨L,P,a⟩:=bind_some a
    refine aF (fK P) rfl Dk rfl rfl rfl rfl wz (aa (vB (!L)) (aa (vB (!L)) (ah ?_)))
    rcases ak a with⟨w,a⟩|⟨w,a⟩
    ·refine aB rfl w (aj (aa (vI 5) (ah ?_)))
     obtain rfl:=af a
     obtain rfl:=af h
     obtain rfl:=af g
     exact aC (aL [(vI 5)] ⟨rfl,trivial⟩)
    ·refine aA rfl w (au ?_)
     obtain ⟨À,i,a⟩:=bind_some a
     refine aP [(0,(vL Beat.enc b)),(3,(vI (c:Int))),(4,(.ref p 0 0)),(8,(vL Beat.enc b)),(9,(vI (b.length:Int))),(10,(vI (c:Int))),(20,(vB À))] [(p,some (.cells 3 (Beat.v e)))] ?_ ?_
     ·refine av (aH Gz rfl 1 rfl wz (ay 0 0 il ft sz3 ag3 rfl rfl (vI e.At) rfl wz ?_))
      obtain ⟨Z,Q,i⟩:=bind_some i
      refine aF (iC Q) rfl LJ rfl rfl rfl rfl wz (aa (vB (!Z)) ?_)
      rcases ak i with⟨z,i⟩|⟨z,i⟩
      ·refine aD rfl z wz (ae (ae (ae (aa (vB true) (aa (vB true) (ah ?_))))))
       obtain rfl:=af i
       exact cu
      ·refine aD rfl z wz (aH Gi rfl 2 rfl wa (ay 0 0 il ft sz3 ag3 rfl rfl (vI e.Clock) rfl wa ?_))
       obtain ⟨M,R,i⟩:=bind_some i
       refine aF (bH R) rfl tT rfl rfl rfl rfl wa (aa (vB M) (aa (vB M) (ah ?_)))
       obtain rfl:=af i
       exact cu
     ·rintro ⟨⟩ _ K u l m
      refine aN _ l m ?_
      rcases ak a with⟨A,a⟩|⟨A,a⟩
      ·refine aB rfl A (aj (aa (vI 1) (ah ?_)))
       obtain rfl:=af a
       obtain rfl:=af h
       obtain rfl:=af g
       exact aC (aL [(vI 1)] ⟨rfl,trivial⟩)
      ·refine aA rfl A (au ?_)
       obtain ⟨Á,j,a⟩:=bind_some a
       refine aP [(0,(vL Beat.enc b)),(3,(vI (c:Int))),(4,(.ref p 0 0)),(8,(vL Beat.enc b)),(9,(vI (b.length:Int))),(10,(vI (c:Int))),(30,(vB Á))] [(p,some (.cells 3 (Beat.v e)))] ?_ ?_
       ·refine bI (aa (vI (c:Int)) (aa (vB (decide ((c:Int)>0))) ?_))
        rcases ak j with⟨B,j⟩|⟨B,j⟩
        ·refine aD rfl B wz (aK (vL Beat.enc b) wa rfl (aK (vI (c:Int)) wa rfl (aK (vI (w64 ((c:Int)-1))) wa rfl ?_)))
         obtain ⟨Ã,U,j⟩:=bind_some j
         refine dR OW rfl rfl U rfl wa (bN Od ag94 rfl (.d (.agg (Beat.enc Ã))) rfl wa (ay 8 0 (.inr (by kernel_rfl)) (λ_ _ ag=>trivial) Od ag94 rfl rfl (.d (.agg (Beat.enc e))) rfl wa ?_))
         obtain ⟨J,T,j⟩:=bind_some j
         refine aF (yN T) rfl hb140 rfl rfl rfl rfl wa (aK (vB (decide (J>=0))) wa rfl (aa (vB (decide (J>=0))) (aa (vB (decide (J>=0))) (ah ?_))))
         obtain rfl:=af j
         exact cu
        ·refine aD rfl B wz (ae (ae (ae (ae (ae (ae (ae (ae (aa (vB false) (aa (vB false) (ah ?_)))))))))))
         obtain rfl:=af j
         exact cu
       ·rintro ⟨⟩ _ K u l m
        refine aN _ l m ?_
        rcases ak a with⟨C,a⟩|⟨C,a⟩
        ·refine aB rfl C (aj (aa (vI 7) (ah ?_)))
         obtain rfl:=af a
         obtain rfl:=af h
         obtain rfl:=af g
         exact aC (aL [(vI 7)] ⟨rfl,trivial⟩)
        ·refine aA rfl C (au ?_)
         obtain ⟨Â,f,a⟩:=bind_some a
         refine aP [(0,(vL Beat.enc b)),(8,(vL Beat.enc b)),(9,(vI (b.length:Int))),(10,(vI (c:Int))),(43,(vB Â))] [(p,some (.cells 3 (Beat.v e)))] ?_ ?_
         ·refine bI (aa (vI (c:Int)) (aa (vB (decide ((c:Int)>0))) ?_))
          rcases ak f with⟨E,f⟩|⟨E,f⟩
          ·refine aD rfl E wz (aH DN rfl 0 rfl wa (ay 4 0 (.inr (by kernel_rfl)) (λ_ _ ag=>trivial) sz9 ag9 rfl rfl (vS e.Player) rfl wa (aK (vL Beat.enc b) wa rfl (aK (vI (c:Int)) wa rfl (aK (vI (w64 ((c:Int)-1))) wa rfl ?_)))))
           obtain ⟨o,W,f⟩:=bind_some f
           refine dR OW rfl rfl W rfl wa (oJ DN rfl [.str o.Player,.int .i64 o.At,.int .i64 o.Clock] rfl rfl wa (bN sz9 ag9 rfl (vS o.Player) rfl wa (aK (vB (sEq e.Player o.Player)) wa rfl (aa (vB (sEq e.Player o.Player)) ?_))))
           rcases ak f with⟨F,f⟩|⟨F,f⟩
           ·refine aD rfl F wz (aH Gi rfl 2 rfl wa (ay 15 0 (.inr (by kernel_rfl)) (λ_ _ ag=>⟨.inl ⟨rfl,rfl⟩,trivial⟩) sz3 ag3 rfl rfl (vI e.Clock) rfl wa (aK (vL Beat.enc b) wa rfl (aK (vI (c:Int)) wa rfl (aK (vI (w64 ((c:Int)-1))) wa rfl ?_)))))
            obtain ⟨t,X,f⟩:=bind_some f
            refine dR OW rfl rfl X rfl wa (oJ Gi rfl [.int .i64 t.Clock] rfl rfl wa (bN sz3 ag3 rfl (vI t.Clock) rfl wa (aK (vB (decide (e.Clock<=t.Clock))) wa rfl (aa (vB (decide (e.Clock<=t.Clock))) (aa (vB (decide (e.Clock<=t.Clock))) (ah ?_))))))
            obtain rfl:=af f
            exact cu
           ·refine aD rfl F wz (ae (ae (ae (ae (ae (ae (ae (ae (ae (aa (vB false) (aa (vB false) (ah ?_))))))))))))
            obtain rfl:=af f
            exact cu
          ·refine aD rfl E wz (ae (ae (ae (ae (ae (ae (ae (ae (ae (aa (vB false) (aa (vB false) (ae (ae (ae (ae (ae (ae (ae (ae (ae (aa (vB false) (aa (vB false) (ah ?_)))))))))))))))))))))))
           obtain rfl:=af f
           exact cu
         ·rintro ⟨⟩ _ K u l m
          refine aN _ l m ?_
          rcases ak a with⟨G,a⟩|⟨G,a⟩
          ·refine aB rfl G (aj (aa (vI 16) (ah ?_)))
           obtain rfl:=af a
           obtain rfl:=af h
           obtain rfl:=af g
           exact aC (aL [(vI 16)] ⟨rfl,trivial⟩)
          ·refine aA rfl G (ax (av (dX (bD n N) wz rfl (aa (vI ((c+1:Nat):Int)) (ah ?_)))))
           obtain rfl:=af a
           exact aU (c+1,I,()) ⟨h,aQ n⟩ (ls_ _) rfl (aI rfl)
  ·rintro q O K u l m
   subst O
   refine aN _ l m (aj (aa (vI 0) (ah ?_)))
   obtain rfl:=af g
   exact aC (aL [(vI 0)] ⟨rfl,trivial⟩)
theorem Df {f:(List Beat)} {g:ByteArray} {h:Bool} {r:(List Beat_)} (o:q9 f g h=some r) :
  FnM Tryz.prog 104 [(vL Beat.enc f),(vS g),(vB h)] [] (vL Beat_.enc r) []:=by
 refine FnM.of_wH ⟨Tryz.prog,41,[],[]⟩ rfl Tryz.func104 rfl rfl (lb_ rfl) (by kernel_rfl) ?_
 unfold q9 at o
 refine aj (aa .nil (ah (aj (aa .nil (ah (au (aj (aa (vL Beat.enc f) (bS un95 rfl wz (aa (vI 0) (ah (iO (λM => ?_)))))))))))))
 obtain ⟨P,w,o⟩:=bind_some o
 obtain ⟨I,w⟩:=aW w
 refine gH (σ:=(List Beat_)) (N:=Nm) (λp=>(λ(e:List Beat_) (c:Nm)=>([(7,(gV c 2 e))]:SL_)) p.1 p.2) (λp=>(λ(e:List Beat_) (c:Nm)=>([(c,gB 2 Beat_.enc e)]:Hp)) p.1 p.2) (λ(j:Nat)=>(λp=>(λ(e:List Beat_) (c:Nm)=>([(1,(vS g)),(2,(vB h)),(7,(gV c 2 e)),(10,(vL Beat.enc f)),(11,(vI (f.length:Int))),(12,(vI (j:Int)))]:SL_)) p.1 p.2)) (λk x s=>qJ g h k x s) P f (([]:List Beat_),M) w rfl (aI rfl) ?_ ?_
 ·rintro ⟨j,A,e,c⟩ ⟨m,l⟩
  dsimp only at m l
  cases A with
  | nil =>
   obtain rfl:=af m
   refine aj (aa (vB (decide ((j:Int)<(f.length:Int)))) (ah ?_))
   refine au (aA rfl (drop_nil l) (aS ?_))
   exact aV (e,c) rfl rfl (aI rfl)
  | cons a A =>
   obtain ⟨R,q,m⟩:=bind_some m
   refine aj (aa (vB (decide ((j:Int)<(f.length:Int)))) (ah ?_))
   refine au (aB rfl (bv l) (ax ?_))
   unfold qJ at q
   refine au (aM (aj (dR OW rfl rfl (bJ l) rfl wz (bN Od ag94 rfl (.d (.agg (Beat.enc a))) rfl wz (bZ 0 (.inl rfl) z94 rfl wz (λO=>dY 0 il ft 1 Od rfl rfl (Beat.v a) rfl wz (ah (aM (aj (aH DN rfl 0 rfl wz (ay 0 1 il ft sz9 ag9 rfl rfl (vS a.Player) rfl wz (aa (vS g) (aa (vB (sNe a.Player g)) (aa (vB (sNe a.Player g)) (ah ?_)))))))))))))))
   obtain ⟨B,b,q⟩:=bind_some q
   refine lG (β:=Nm) (λ(n:Nm)=>([(1,(vS g)),(2,(vB h)),(7,(gV n 2 B)),(10,(vL Beat.enc f)),(11,(vI (f.length:Int))),(12,(vI (j:Int)))]:SL_)) (λ(n:Nm)=>([(n,gB 2 Beat_.enc B),(O,some (.cells 3 (Beat.v a)))]:Hp)) (λ_=>True) ?_ ?_
   ·rcases ak b with⟨t,b⟩|⟨t,b⟩
    ·refine aB rfl t (ax ?_)
     obtain rfl:=af b
     exact aV c trivial rfl (aI rfl)
    ·refine aA rfl t (aj (aa (vB h) (aa (vB h) (ah ?_))))
     rcases ak b with⟨u,b⟩|⟨u,b⟩
     ·refine aB rfl u (av (aa (gV c 2 e) (aH Gz rfl 1 rfl wz (ay 0 1 il ft sz3 ag3 rfl rfl (vI a.At) rfl wz (aH Gi rfl 2 rfl wz (ay 0 1 il ft sz3 ag3 rfl rfl (vI a.Clock) rfl wz (aK (.d (.agg (Beat_.enc (⟨a.At,a.Clock⟩:Beat_)))) wz (by kernel_rfl) (eP (([(⟨a.At,a.Clock⟩:Beat_)]:List Beat_).map Beat_.enc) CK ez170 rfl rfl rfl rfl rfl wz ?_))))))))
      obtain ⟨G,K,b⟩:=bind_some b
      refine kJ 0 il ft (i:=0) NE NE IG z205 rfl (by decide) by205 (by decide) (λ_=>rfl) rfl rfl rfl K wz (λC=>aa (gV C 2 G) (ah ?_))
      obtain rfl:=af b
      exact aV C trivial rfl (aI rfl)
     ·refine aA rfl u (av (aa (gV c 2 e) (aH Gi rfl 2 rfl wz (ay 0 1 il ft sz3 ag3 rfl rfl (vI a.Clock) rfl wz (aH Gz rfl 1 rfl wz (ay 0 1 il ft sz3 ag3 rfl rfl (vI a.At) rfl wz (aK (.d (.agg (Beat_.enc (⟨a.Clock,a.At⟩:Beat_)))) wz (by kernel_rfl) (eP (([(⟨a.Clock,a.At⟩:Beat_)]:List Beat_).map Beat_.enc) CK ez170 rfl rfl rfl rfl rfl wz ?_))))))))
      obtain ⟨H,L,b⟩:=bind_some b
      refine kJ 0 il ft (i:=0) NE NE IG z205 rfl (by decide) by205 (by decide) (λ_=>rfl) rfl rfl rfl L wz (λE=>aa (gV E 2 H) (ah ?_))
      obtain rfl:=af b
      exact aV E trivial rfl (aI rfl)
   ·rintro n _ Q F y z
    refine aN _ y z (av (dX (bD l I) wz rfl (aa (vI ((j+1:Nat):Int)) (ah ?_))))
    obtain rfl:=af q
    exact aU (j+1,A,B,n) ⟨m,aQ l⟩ (ls_ _) rfl (aI rfl)
 ·rintro ⟨e,c⟩ J Q F y z
  subst J
  refine aN _ y z (aj (aa (gV c 2 e) (aa (gV c 2 e) (ah (jb 0 rfl (fC 6 0 rfl rfl (fC 7 0 rfl rfl (fC 40 0 rfl rfl ?_))))))))
  obtain rfl:=af o
  exact aC (aL [(vL Beat_.enc e)] ⟨rfl,trivial⟩)
theorem EH {f:(List Beat_)} {b:Int} {r:Int×Int} (a:pO f b=some r) :
  FnM Tryz.prog 103 [(vL Beat_.enc f),(vI b)] [] (.tup [(vI r.1),(vI r.2)]) []:=by
 refine FnM.of_wH ⟨Tryz.prog,108,[],[]⟩ rfl Tryz.func103 rfl rfl (lb_ rfl) (by kernel_rfl) ?_
 unfold pO at a
 refine aj (aa (vI 0) (aa (vI 0) (ah (au (aj (aa (vL Beat_.enc f) (bS QW rfl wz (aa (vB ((f.length:Int)==0)) (ah ?_)))))))))
 rcases ak a with⟨B,a⟩|⟨B,a⟩
 ·refine aB rfl B (aj (aa (vI 0) (aa (vI 8) (ah ?_))))
  obtain rfl:=af a
  exact aC (aL [(vI 0),(vI 8)] ⟨rfl,⟨rfl,trivial⟩⟩)
 ·refine aA rfl B (ax (aj (aa (vI 0) (ah (au ?_)))))
  obtain ⟨Á,H,a⟩:=bind_some a
  obtain ⟨À,H⟩:=dJ H
  refine gq (λ(c:Int)=>[(0,(vL Beat_.enc f)),(1,(vI b)),(6,(vI c))]) (λ(c:Int)=>[]) (λ(v:Nat)=>(λ(c:Int)=>[(0,(vL Beat_.enc f)),(1,(vI b)),(6,(vI c))])) (λs=>oM f b s) Á À 0 H rfl (aI rfl) ?_ ?_
  ·rintro ⟨v,c⟩ n
   dsimp only at n
   cases v with
   | zero=>cases n
   | succ v =>
    obtain ⟨Ç,k,n⟩:=bind_some n
    unfold oM at k
    refine au (au ?_)
    obtain ⟨Å,m,k⟩:=bind_some k
    refine aP [(0,(vL Beat_.enc f)),(1,(vI b)),(6,(vI c)),(25,(vB Å))] [] ?_ ?_
    ·refine av (aa (vI c) (aa (vL Beat_.enc f) (bS QW rfl wz (aa (vB (decide (c<(f.length:Int)))) ?_))))
     rcases ak m with⟨w,m⟩|⟨w,m⟩
     ·refine aD rfl w wz (aK (vL Beat_.enc f) wa rfl (aK (vI c) wa rfl ?_))
      obtain ⟨u,Q,m⟩:=bind_some m
      refine dR CK rfl rfl Q rfl wa (oJ vo rfl [.int .i64 u.f_from,.int .i64 u.f_to] rfl rfl wa (bN sz3 ag3 rfl (vI u.f_from) rfl wa (aK (vI b) wa rfl (aK (vB (decide (u.f_from<=b))) wa rfl (aa (vB (decide (u.f_from<=b))) (ah ?_))))))
      obtain rfl:=af m
      exact cu
     ·refine aD rfl w wz (ae (ae (ae (ae (ae (ae (ae (aa (vB false) (ah ?_)))))))))
      obtain rfl:=af m
      exact cu
    ·rintro ⟨⟩ _ L I q t
     refine aN _ q t ?_
     rcases ak k with⟨x,k⟩|⟨x,k⟩
     ·refine aB rfl x (ax (aM (av (aa (vI c) (aa (vI (w64 (c+1))) (aa (vI (w64 (c+1))) (ah ?_)))))))
      obtain rfl:=af k
      exact aU (v,(w64 (c+1))) n (ls_ _) rfl (aI rfl)
     ·refine aA rfl x (aS ?_)
      obtain rfl:=af k
      obtain rfl:=af n
      exact aV (c) rfl rfl (aI rfl)
  ·rintro c M L I q t
   subst M
   refine aN _ q t (aj (aa (vI 0) (ah (au (aM (aj (aa (vI c) (aa (vB (c==0)) (aa (vB (c==0)) (ah ?_))))))))))
   rcases ak a with⟨y,a⟩|⟨y,a⟩
   ·refine aB rfl y (bI (aa (vL Beat_.enc f) ?_))
    obtain ⟨l,R,a⟩:=bind_some a
    refine dR CK rfl rfl R rfl wz (oJ xP rfl [.int .i64 l.f_to] rfl rfl wz (bN sz3 ag3 rfl (vI l.f_to) rfl wz (aa (vL Beat_.enc f) ?_)))
    obtain ⟨h,T,a⟩:=bind_some a
    refine dR CK rfl rfl T rfl wz (oJ vo rfl [.int .i64 h.f_from,.int .i64 h.f_to] rfl rfl wz (bN sz3 ag3 rfl (vI h.f_from) rfl wz (aa (vI b) (aa (vI (w64 (h.f_from-b))) (aa (vI (w64 (l.f_to-(w64 (h.f_from-b))))) (aa (vI (w64 (l.f_to-(w64 (h.f_from-b))))) (ah (au (aj (aa (vI (w64 (l.f_to-(w64 (h.f_from-b))))) ?_))))))))))
    obtain ⟨Â,N,a⟩:=bind_some a
    refine aF (iC N) rfl LJ rfl rfl rfl rfl wz (aa (vB (!Â)) (ah ?_))
    rcases ak a with⟨z,a⟩|⟨z,a⟩
    ·refine aB rfl z (aj (aa (vI 0) (aa (vI 11) (ah ?_))))
     obtain rfl:=af a
     exact aC (aL [(vI 0),(vI 11)] ⟨rfl,⟨rfl,trivial⟩⟩)
    ·refine aA rfl z (ax (aj (aa (vI (w64 (l.f_to-(w64 (h.f_from-b))))) (aa (vI (w64 (l.f_to-(w64 (h.f_from-b))))) (aa (vI 0) (ah ?_))))))
     obtain rfl:=af a
     exact aC (aL [(vI (w64 (l.f_to-(w64 (h.f_from-b))))),(vI 0)] ⟨rfl,⟨rfl,trivial⟩⟩)
   ·refine aA rfl y (aj (aa (vI c) (aa (vL Beat_.enc f) (bS QW rfl wz (aa (vB (c==(f.length:Int))) (aa (vB (c==(f.length:Int))) (ah ?_)))))))
    rcases ak a with⟨A,a⟩|⟨A,a⟩
    ·refine aB rfl A (bI (aa (vL Beat_.enc f) (aa (vI c) (aa (vI (w64 (c-1))) ?_))))
     obtain ⟨i,U,a⟩:=bind_some a
     refine dR CK rfl rfl U rfl wz (oJ xP rfl [.int .i64 i.f_to] rfl rfl wz (bN sz3 ag3 rfl (vI i.f_to) rfl wz (aa (vI b) (aa (vI (w64 (i.f_to+b))) (aa (vL Beat_.enc f) (aa (vI c) (aa (vI (w64 (c-1))) ?_)))))))
     obtain ⟨j,W,a⟩:=bind_some a
     refine dR CK rfl rfl W rfl wz (oJ vo rfl [.int .i64 j.f_from,.int .i64 j.f_to] rfl rfl wz (bN sz3 ag3 rfl (vI j.f_from) rfl wz (aa (vI (w64 ((w64 (i.f_to+b))-j.f_from))) (aa (vI (w64 ((w64 (i.f_to+b))-j.f_from))) (ah (au (aj (aa (vI (w64 ((w64 (i.f_to+b))-j.f_from))) ?_))))))))
     obtain ⟨Ã,O,a⟩:=bind_some a
     refine aF (iC O) rfl LJ rfl rfl rfl rfl wz (aa (vB (!Ã)) (ah ?_))
     rcases ak a with⟨C,a⟩|⟨C,a⟩
     ·refine aB rfl C (aj (aa (vI 0) (aa (vI 11) (ah (aN (H0:=([]:Hp)) ([(4,(vI 0)),(5,(vI 11))]:SL_) (by kernel_rfl) (wy (by kernel_rfl)) ?_)))))
      obtain rfl:=af a
      exact aC (aL [(vI 0),(vI 11)] ⟨rfl,⟨rfl,trivial⟩⟩)
     ·refine aA rfl C (ax (aj (aa (vI (w64 ((w64 (i.f_to+b))-j.f_from))) (aa (vI (w64 ((w64 (i.f_to+b))-j.f_from))) (aa (vI 0) (ah (aN (H0:=([]:Hp)) ([(4,(vI (w64 ((w64 (i.f_to+b))-j.f_from)))),(5,(vI 0))]:SL_) (by kernel_rfl) (wy (by kernel_rfl)) ?_)))))))
      obtain rfl:=af a
      exact aC (aL [(vI (w64 ((w64 (i.f_to+b))-j.f_from))),(vI 0)] ⟨rfl,⟨rfl,trivial⟩⟩)
    ·refine aA rfl A (au (bI (aa (vL Beat_.enc f) (aa (vI c) (aa (vI (w64 (c-1))) ?_)))))
     obtain ⟨e,X,a⟩:=bind_some a
     refine dR CK rfl rfl X rfl wz (bN IG ag205 rfl (.d (.agg (Beat_.enc e))) rfl wz (aa (vL Beat_.enc f) (aa (vI c) ?_)))
     obtain ⟨g,Y,a⟩:=bind_some a
     refine dR CK rfl rfl Y rfl wz (bN IG ag205 rfl (.d (.agg (Beat_.enc g))) rfl wz (bZ 9 (.inr (by kernel_rfl)) z205 rfl wz (λJ=>bZ 10 (.inr (by kernel_rfl)) z205 rfl wz (λK=>dY 11 (.inr (by kernel_rfl)) (λ_ _ ag=>⟨.inr (.inr (by kernel_rfl)),⟨.inr (.inr (by kernel_rfl)),trivial⟩⟩) 0 IG rfl rfl [(vI e.f_from),(vI e.f_to)] rfl wz (dY 12 (.inr (by kernel_rfl)) (λ_ _ ag=>⟨.inr (.inr (by kernel_rfl)),⟨.inr (.inr (by kernel_rfl)),⟨.inr (.inr (by kernel_rfl)),trivial⟩⟩⟩) 1 IG rfl rfl [(vI g.f_from),(vI g.f_to)] rfl wz (ah (au (au ?_))))))))
     obtain ⟨Æ,p,a⟩:=bind_some a
     refine aP [(1,(vI b)),(8,(.ref J 0 0)),(9,(.ref K 0 0)),(50,(vB Æ))] [(J,some (.cells 2 [(vI e.f_from),(vI e.f_to)])),(K,some (.cells 2 [(vI g.f_from),(vI g.f_to)]))] ?_ ?_
     ·refine av (aH vo rfl 0 rfl wz (ay 0 1 il ft sz3 ag3 rfl rfl (vI g.f_from) rfl wz (aH vo rfl 0 rfl wz (ay 0 0 il ft sz3 ag3 rfl rfl (vI e.f_from) rfl wz (aa (vI (w64 (g.f_from-e.f_from))) (aa (vB (decide ((w64 (g.f_from-e.f_from))>2592000000))) ?_))))))
      rcases ak p with⟨E,p⟩|⟨E,p⟩
      ·refine aD rfl E wz (ae (ae (ae (ae (ae (ae (aa (vB true) (ah ?_))))))))
       obtain rfl:=af p
       exact cu
      ·refine aD rfl E wz (aH xP rfl 1 rfl wa (ay 0 1 il ft sz3 ag3 rfl rfl (vI g.f_to) rfl wa (aH xP rfl 1 rfl wa (ay 0 0 il ft sz3 ag3 rfl rfl (vI e.f_to) rfl wa (aK (vI (w64 (g.f_to-e.f_to))) wa rfl (aK (vB (decide ((w64 (g.f_to-e.f_to))>2592000000))) wa rfl (aa (vB (decide ((w64 (g.f_to-e.f_to))>2592000000))) (ah ?_))))))))
       obtain rfl:=af p
       exact cu
     ·rintro ⟨⟩ _ L I q t
      refine aN _ q t ?_
      rcases ak a with⟨F,a⟩|⟨F,a⟩
      ·refine aB rfl F (aj (aa (vI 0) (aa (vI 2) (ah ?_))))
       obtain rfl:=af a
       exact aC (aL [(vI 0),(vI 2)] ⟨rfl,⟨rfl,trivial⟩⟩)
      ·refine aA rfl F (ax (bI (aH xP rfl 1 rfl wz (ay 1 0 (.inr (by kernel_rfl)) (λ_ _ ag=>trivial) sz3 ag3 rfl rfl (vI e.f_to) rfl wz (aa (vI b) (aH vo rfl 0 rfl wz (ay 4 0 (.inr (by kernel_rfl)) (λ_ _ ag=>⟨.inl ⟨rfl,rfl⟩,trivial⟩) sz3 ag3 rfl rfl (vI e.f_from) rfl wz (aa (vI (w64 (b-e.f_from))) (aH xP rfl 1 rfl wz (ay 7 1 (.inr (by kernel_rfl)) (λ_ _ ag=>⟨.inl ⟨rfl,rfl⟩,⟨.inl ⟨rfl,rfl⟩,trivial⟩⟩) sz3 ag3 rfl rfl (vI g.f_to) rfl wz (aH xP rfl 1 rfl wz (ay 9 0 (.inr (by kernel_rfl)) (λ_ _ ag=>⟨.inl ⟨rfl,rfl⟩,⟨.inl ⟨rfl,rfl⟩,⟨.inl ⟨rfl,rfl⟩,trivial⟩⟩⟩) sz3 ag3 rfl rfl (vI e.f_to) rfl wz (aa (vI (w64 (g.f_to-e.f_to))) (aa (vI (w64 ((w64 (b-e.f_from))*(w64 (g.f_to-e.f_to))))) (aH vo rfl 0 rfl wz (ay 13 1 (.inr (by kernel_rfl)) (λ_ _ ag=>⟨.inl ⟨rfl,rfl⟩,⟨.inl ⟨rfl,rfl⟩,⟨.inl ⟨rfl,rfl⟩,⟨.inl ⟨rfl,rfl⟩,trivial⟩⟩⟩⟩) sz3 ag3 rfl rfl (vI g.f_from) rfl wz (aH vo rfl 0 rfl wz (ay 15 0 (.inr (by kernel_rfl)) (λ_ _ ag=>⟨.inl ⟨rfl,rfl⟩,⟨.inl ⟨rfl,rfl⟩,⟨.inl ⟨rfl,rfl⟩,⟨.inl ⟨rfl,rfl⟩,⟨.inl ⟨rfl,rfl⟩,trivial⟩⟩⟩⟩⟩) sz3 ag3 rfl rfl (vI e.f_from) rfl wz (aa (vI (w64 (g.f_from-e.f_from))) ?_)))))))))))))))))))
       obtain ⟨o,Z,a⟩:=bind_some a
       refine QM rfl rfl Z wz (aa (vI (w64 (e.f_to+o))) (aa (vI (w64 (e.f_to+o))) (ah (au (aj (aa (vI (w64 (e.f_to+o))) ?_))))))
       obtain ⟨Ä,P,a⟩:=bind_some a
       refine aF (iC P) rfl LJ rfl rfl rfl rfl wz (aa (vB (!Ä)) (ah ?_))
       rcases ak a with⟨G,a⟩|⟨G,a⟩
       ·refine aB rfl G (aj (aa (vI 0) (aa (vI 11) (ah ?_))))
        obtain rfl:=af a
        exact aC (aL [(vI 0),(vI 11)] ⟨rfl,⟨rfl,trivial⟩⟩)
       ·refine aA rfl G (ax (aj (aa (vI (w64 (e.f_to+o))) (aa (vI (w64 (e.f_to+o))) (aa (vI 0) (ah ?_))))))
        obtain rfl:=af a
        exact aC (aL [(vI (w64 (e.f_to+o))),(vI 0)] ⟨rfl,⟨rfl,trivial⟩⟩)
theorem G5 {d:(List Beat)} {f:ByteArray} {e:Int} {g:Bool} {r:Int×Int} (a:rX d f e g=some r) :
  FnM Tryz.prog 72 [(vL Beat.enc d),(vS f),(vI e),(vB g)] [] (.tup [(vI r.1),(vI r.2)]) []:=by
 refine FnM.of_wH ⟨Tryz.prog,30,[],[]⟩ rfl Tryz.func72 rfl rfl (lb_ rfl) (by kernel_rfl) ?_
 unfold rX at a
 refine aj (aa (vI 0) (aa (vI 0) (ah (au (aj (aa (vL Beat.enc d) ?_))))))
 obtain ⟨c,n,a⟩:=bind_some a
 refine aF (Aq n) rfl hb102 rfl rfl rfl rfl wz (aa (vI c) (ah (aj (aa (vI c) (aa (vB (c != 0)) (ah ?_))))))
 rcases ak a with⟨j,a⟩|⟨j,a⟩
 ·refine aB rfl j (aj (aa (vI c) (aa (vI 0) (aa (vI c) (ah ?_)))))
  obtain rfl:=af a
  exact aC (aL [(vI 0),(vI c)] ⟨rfl,⟨rfl,trivial⟩⟩)
 ·refine aA rfl j (ax (au (aj (aa (vS f) ?_))))
  obtain ⟨q,o,a⟩:=bind_some a
  refine aF (fK o) rfl Dk rfl rfl rfl rfl wz (aa (vB (!q)) (ah ?_))
  rcases ak a with⟨h,a⟩|⟨h,a⟩
  ·refine aB rfl h (aj (aa (vI 0) (aa (vI 5) (ah ?_))))
   obtain rfl:=af a
   exact aC (aL [(vI 0),(vI 5)] ⟨rfl,⟨rfl,trivial⟩⟩)
  ·refine aA rfl h (ax (au (aj (aa (vI e) ?_))))
   obtain ⟨p,k,a⟩:=bind_some a
   refine aF (iC k) rfl LJ rfl rfl rfl rfl wz (aa (vB (!p)) (ah ?_))
   rcases ak a with⟨i,a⟩|⟨i,a⟩
   ·refine aB rfl i (aj (aa (vI 0) (aa (vI 1) (ah ?_))))
    obtain rfl:=af a
    exact aC (aL [(vI 0),(vI 1)] ⟨rfl,⟨rfl,trivial⟩⟩)
   ·refine aA rfl i (ax (aj (aa (vL Beat.enc d) (aa (vS f) (aa (vB g) ?_)))))
    obtain ⟨s,l,a⟩:=bind_some a
    refine aF (Df l) rfl hb104 rfl rfl rfl rfl wz (aa (vI e) ?_)
    obtain ⟨b,m,a⟩:=bind_some a
    refine aF (EH m) rfl hb103 rfl rfl rfl rfl wz (aa (vI b.1) (aa (vI b.2) (aa (vI b.1) (aa (vI b.2) (ah ?_)))))
    obtain rfl:=af a
    exact aC (aL [(vI b.1),(vI b.2)] ⟨rfl,⟨rfl,trivial⟩⟩)
theorem GH {d:(List Beat)} {e:ByteArray} {c:Int} {r:Int×Int} (b:rU d e c=some r) :
  FnM Tryz.prog 37 [(vL Beat.enc d),(vS e),(vI c)] [] (.tup [(vI r.1),(vI r.2)]) []:=by
 refine FnM.of_wH ⟨Tryz.prog,14,[],[]⟩ rfl Tryz.func37 rfl rfl (lb_ rfl) (by kernel_rfl) ?_
 unfold rU at b
 refine aj (aa (vI 0) (aa (vI 0) (ah (aj (aa (vL Beat.enc d) (aa (vS e) (aa (vI c) ?_)))))))
 obtain ⟨a,f,b⟩:=bind_some b
 refine aF (G5 f) rfl hb72 rfl rfl rfl rfl wz (aa (vI a.1) (aa (vI a.2) (aa (vI a.1) (aa (vI a.2) (ah ?_)))))
 obtain rfl:=af b
 exact aC (aL [(vI a.1),(vI a.2)] ⟨rfl,⟨rfl,trivial⟩⟩)
theorem Bo {a:Alert} {r:Int} (c:lY a=some r) :
  FnM Tryz.prog 172 [(.d (.agg (Alert.enc a)))] [] (vI r) []:=by
 refine FnM.of_wH ⟨Tryz.prog,48,[],[]⟩ rfl Tryz.func172 rfl rfl (lb_ rfl) (by kernel_rfl) ?_
 unfold lY at c
 refine aj (dQ 0 (.inl rfl) (Alert.v a) rfl rfl wz (λj=>aa (vI 0) (ah (au (aj (aH Kb rfl 3 rfl wz (ay 0 0 il ft tV xn rfl rfl (vL eS a.Refs) rfl wz (bS yz rfl wz (aa (vB (decide ((a.Refs.length:Int)>20))) (ah ?_))))))))))
 rcases ak c with⟨u,c⟩|⟨u,c⟩
 ·refine aB rfl u (aj (aa (vI 2) (ah ?_)))
  obtain rfl:=af c
  exact aC (aL [(vI 2)] ⟨rfl,trivial⟩)
 ·refine aA rfl u (ax (au (aj (aH Kb rfl 3 rfl wz (ay 0 0 il ft tV xn rfl rfl (vL eS a.Refs) rfl wz (bS yz rfl wz (aa (vI 0) (ah ?_))))))))
  obtain ⟨I,w,c⟩:=bind_some c
  obtain ⟨E,w⟩:=aW w
  refine cz (λ(l:Unit)=>[(1,(.ref j 0 0))]) (λ(l:Unit)=>[(j,some (.cells 9 (Alert.v a)))]) (λ(e:Nat)=>(λ(l:Unit)=>[(1,(.ref j 0 0)),(10,(vL eS a.Refs)),(11,(vI (a.Refs.length:Int))),(12,(vI (e:Int)))])) (λk x s=>jF a k x s) I a.Refs () w rfl (aI rfl) ?_ ?_
  ·rintro ⟨e,A,l⟩ ⟨g,i⟩
   dsimp only at g i
   cases A with
   | nil =>
    obtain rfl:=af g
    refine aj (aa (vB (decide ((e:Int)<(a.Refs.length:Int)))) (ah ?_))
    refine au (aA rfl (drop_nil i) (aS ?_))
    exact aV (l) rfl rfl (aI rfl)
   | cons f A =>
    obtain ⟨L,b,g⟩:=bind_some g
    refine aj (aa (vB (decide ((e:Int)<(a.Refs.length:Int)))) (ah ?_))
    refine au (aB rfl (bv i) (ax ?_))
    unfold jF at b
    refine au (aM (aj (aa (vI (e:Int)) (dR qW rfl rfl (bJ i) rfl wz (bN sz9 ag9 rfl (vS f) rfl wz (aa (vI (e:Int)) (aa (vS f) (ah (aM (aj (aa (vS f) ?_)))))))))))
    obtain ⟨B,G,b⟩:=bind_some b
    refine aF (fK G) rfl Dk rfl rfl rfl rfl wz (aa (vB (!B)) (aa (vB (!B)) (ah ?_)))
    rcases ak b with⟨n,b⟩|⟨n,b⟩
    ·refine aB rfl n (aj (aa (vI 5) (ah ?_)))
     obtain rfl:=af b
     obtain rfl:=af g
     obtain rfl:=af c
     exact aC (aL [(vI 5)] ⟨rfl,trivial⟩)
    ·refine aA rfl n (au ?_)
     obtain ⟨K,h,b⟩:=bind_some b
     refine aP [(1,(.ref j 0 0)),(4,(vS f)),(10,(vL eS a.Refs)),(11,(vI (a.Refs.length:Int))),(12,(vI (e:Int))),(21,(vB K))] [(j,some (.cells 9 (Alert.v a)))] ?_ ?_
     ·refine av (aa (vI (e:Int)) (aa (vB (decide ((e:Int)>0))) ?_))
      rcases ak h with⟨o,h⟩|⟨o,h⟩
      ·refine aD rfl o wz (aK (vS f) wa rfl (aH Kb rfl 3 rfl wa (ay 0 0 il ft tV xn rfl rfl (vL eS a.Refs) rfl wa (aK (vI (e:Int)) wa rfl (aK (vI (w64 ((e:Int)-1))) wa rfl ?_)))))
       obtain ⟨m,H,h⟩:=bind_some h
       refine dR qW rfl rfl H rfl wa (bN sz9 ag9 rfl (vS m) rfl wa (aK (vB (sLe f m)) wa rfl (aa (vB (sLe f m)) (aa (vB (sLe f m)) (ah ?_)))))
       obtain rfl:=af h
       exact cu
      ·refine aD rfl o wz (ae (ae (ae (ae (ae (ae (ae (ae (aa (vB false) (aa (vB false) (ah ?_)))))))))))
       obtain rfl:=af h
       exact cu
     ·rintro ⟨⟩ _ J C y z
      refine aN _ y z ?_
      rcases ak b with⟨p,b⟩|⟨p,b⟩
      ·refine aB rfl p (aj (aa (vI 7) (ah ?_)))
       obtain rfl:=af b
       obtain rfl:=af g
       obtain rfl:=af c
       exact aC (aL [(vI 7)] ⟨rfl,trivial⟩)
      ·refine aA rfl p (aj (aa (vS f) (aH Dr rfl 0 rfl wz (ay 0 0 il ft sz9 ag9 rfl rfl (vS a.Id) rfl wz (aa (vB (sEq f a.Id)) (aa (vB (sEq f a.Id)) (ah ?_)))))))
       rcases ak b with⟨q,b⟩|⟨q,b⟩
       ·refine aB rfl q (aj (aa (vI 14) (ah ?_)))
        obtain rfl:=af b
        obtain rfl:=af g
        obtain rfl:=af c
        exact aC (aL [(vI 14)] ⟨rfl,trivial⟩)
       ·refine aA rfl q (ax (av (dX (bD i E) wz rfl (aa (vI ((e+1:Nat):Int)) (ah ?_)))))
        obtain rfl:=af b
        exact aU (e+1,A,()) ⟨g,aQ i⟩ (ls_ _) rfl (aI rfl)
  ·rintro l F J C y z
   subst F
   refine aN _ y z (au (aj (aH Mw rfl 2 rfl wz (ay 0 0 il ft sz3 ag3 rfl rfl (vI a.Kind) rfl wz (aa (vB (a.Kind==1)) (aH Kb rfl 3 rfl wz (ay 0 0 il ft tV xn rfl rfl (vL eS a.Refs) rfl wz (bS yz rfl wz (aa (vB ((a.Refs.length:Int)==0)) (Qu un4 rfl rfl wz (ah ?_)))))))))))
   rcases ak c with⟨t,c⟩|⟨t,c⟩
   ·refine aB rfl t (aj (aa (vI 3) (ah ?_)))
    obtain rfl:=af c
    exact aC (aL [(vI 3)] ⟨rfl,trivial⟩)
   ·refine aA rfl t (ax (aj (aa (vI 0) (ah ?_))))
    obtain rfl:=af c
    exact aC (aL [(vI 0)] ⟨rfl,trivial⟩)
theorem dD {e:ByteArray} {r:Int} (a:bK e=some r) :
  FnM Tryz.prog 200 [(vS e)] [] (.d (.int .u64 r)) []:=by
 refine FnM.of_wH ⟨Tryz.prog,59,[],[]⟩ rfl Tryz.func200 rfl rfl (lb_ rfl) (by kernel_rfl) ?_
 unfold bK at a
 refine aj (aa (.d (.int .u64 0)) (ah (au (aA rfl rfl (ax (au (bI (aa (vS e) ?_))))))))
 obtain ⟨b,q,a⟩:=bind_some a
 refine lK un9 rfl rfl q wz (oO un5 CO rfl wz (aa (vS e) ?_))
 obtain ⟨H,s,a⟩:=bind_some a
 refine lK un9 rfl rfl s wz (oO un5 CO rfl wz ?_)
 obtain ⟨c,A,a⟩:=bind_some a
 refine En rfl rfl A wz (aa (.d (.int .u64 (orI .u64 (IntKind.u64.wrap (b.toNat:Int)) c))) (aa (vS e) ?_))
 obtain ⟨I,t,a⟩:=bind_some a
 refine lK un9 rfl rfl t wz (oO un5 CO rfl wz ?_)
 obtain ⟨f,u,a⟩:=bind_some a
 refine En rfl rfl u wz (aa (.d (.int .u64 (orI .u64 (orI .u64 (IntKind.u64.wrap (b.toNat:Int)) c) f))) (aa (vS e) ?_))
 obtain ⟨B,l,a⟩:=bind_some a
 refine lK un9 rfl rfl l wz (oO un5 CO rfl wz ?_)
 obtain ⟨g,v,a⟩:=bind_some a
 refine En rfl rfl v wz (aa (.d (.int .u64 (orI .u64 (orI .u64 (orI .u64 (IntKind.u64.wrap (b.toNat:Int)) c) f) g))) (aa (vS e) ?_))
 obtain ⟨C,m,a⟩:=bind_some a
 refine lK un9 rfl rfl m wz (oO un5 CO rfl wz ?_)
 obtain ⟨h,w,a⟩:=bind_some a
 refine En rfl rfl w wz (aa (.d (.int .u64 (orI .u64 (orI .u64 (orI .u64 (orI .u64 (IntKind.u64.wrap (b.toNat:Int)) c) f) g) h))) (aa (vS e) ?_))
 obtain ⟨E,n,a⟩:=bind_some a
 refine lK un9 rfl rfl n wz (oO un5 CO rfl wz ?_)
 obtain ⟨i,x,a⟩:=bind_some a
 refine En rfl rfl x wz (aa (.d (.int .u64 (orI .u64 (orI .u64 (orI .u64 (orI .u64 (orI .u64 (IntKind.u64.wrap (b.toNat:Int)) c) f) g) h) i))) (aa (vS e) ?_))
 obtain ⟨F,o,a⟩:=bind_some a
 refine lK un9 rfl rfl o wz (oO un5 CO rfl wz ?_)
 obtain ⟨j,y,a⟩:=bind_some a
 refine En rfl rfl y wz (aa (.d (.int .u64 (orI .u64 (orI .u64 (orI .u64 (orI .u64 (orI .u64 (orI .u64 (IntKind.u64.wrap (b.toNat:Int)) c) f) g) h) i) j))) (aa (vS e) ?_))
 obtain ⟨G,p,a⟩:=bind_some a
 refine lK un9 rfl rfl p wz (oO un5 CO rfl wz ?_)
 obtain ⟨k,z,a⟩:=bind_some a
 refine En rfl rfl z wz (aa (.d (.int .u64 (orI .u64 (orI .u64 (orI .u64 (orI .u64 (orI .u64 (orI .u64 (orI .u64 (IntKind.u64.wrap (b.toNat:Int)) c) f) g) h) i) j) k))) (aa (.d (.int .u64 (orI .u64 (orI .u64 (orI .u64 (orI .u64 (orI .u64 (orI .u64 (orI .u64 (IntKind.u64.wrap (b.toNat:Int)) c) f) g) h) i) j) k))) (ah (aN (H0:=([]:Hp)) ([(2,(.d (.int .u64 (orI .u64 (orI .u64 (orI .u64 (orI .u64 (orI .u64 (orI .u64 (orI .u64 (IntKind.u64.wrap (b.toNat:Int)) c) f) g) h) i) j) k))))]:SL_) (by kernel_rfl) (wy (by kernel_rfl)) ?_))))
 obtain rfl:=af a
 exact aC (aL [(.d (.int .u64 (orI .u64 (orI .u64 (orI .u64 (orI .u64 (orI .u64 (orI .u64 (orI .u64 (IntKind.u64.wrap (b.toNat:Int)) c) f) g) h) i) j) k)))] ⟨rfl,trivial⟩)
theorem uf {Q:ByteArray} {r:Bool} (y:gD Q=some r) :
  FnM Tryz.prog 191 [(vS Q)] [] (vB r) []:=by
 refine FnM.of_wH ⟨Tryz.prog,169,[],[]⟩ rfl Tryz.func191 rfl rfl (lb_ rfl) (by kernel_rfl) ?_
 unfold gD at y
 refine aj (aa (vB false) (ah (au ?_)))
 obtain ⟨Ï,M,y⟩:=bind_some y
 obtain ⟨Î,M⟩:=dJ M
 refine gq (λ(j:ByteArray)=>[]) (λ(j:ByteArray)=>[]) (λ(z:Nat)=>(λ(j:ByteArray)=>[(0,(vS j))])) (λs=>fo s) Ï Î Q M rfl (aI rfl) ?_ ?_
 ·rintro ⟨z,j⟩ n
  dsimp only at n
  cases z with
  | zero=>cases n
  | succ z =>
   obtain ⟨W,b,n⟩:=bind_some n
   unfold fo at b
   refine au (aj (aa (vS j) (o5 un9 rfl wz (aa (vB (decide ((j.size:Int)>0))) (ah ?_)))))
   rcases ak b with⟨E,b⟩|⟨E,b⟩
   ·refine aB rfl E (ax (aM (aj (aa (vS j) ?_))))
    obtain ⟨x,Ä,b⟩:=bind_some b
    refine lK un9 rfl rfl Ä wz (aa (.d (.int .u8 (x.toNat:Int))) (ah (au (aj (aa (.d (.int .u8 (x.toNat:Int))) (aa (vB (decide ((x.toNat:Int)<128))) (ah ?_)))))))
    rcases ak b with⟨F,b⟩|⟨F,b⟩
    ·refine aB rfl F (aj (aa (vS j) ?_))
     obtain ⟨o,Å,b⟩:=bind_some b
     refine iw un9 rfl rfl Å wz (aa (vS o) (ah (au (au ?_))))
     obtain ⟨Ñ,k,b⟩:=bind_some b
     refine aP [(0,(vS o)),(24,(vB Ñ))] [] ?_ ?_
     ·refine av (aa (vS o) (o5 un9 rfl wz (aa (vB (decide ((o.size:Int)>8))) ?_)))
      rcases ak k with⟨G,k⟩|⟨G,k⟩
      ·refine aD rfl G wz (aK (vS o) wa rfl ?_)
       obtain ⟨P,X,k⟩:=bind_some k
       refine aF (dD X) rfl FQ rfl rfl rfl rfl wa (aK (.d (.int .u64 (rH .u64 P 9259542123273814144))) wa rfl (aK (vB ((rH .u64 P 9259542123273814144)==0)) wa rfl (aa (vB ((rH .u64 P 9259542123273814144)==0)) (ah ?_))))
       obtain rfl:=af k
       exact cu
      ·refine aD rfl G wz (ae (ae (ae (ae (aa (vB false) (ah ?_))))))
       obtain rfl:=af k
       exact cu
     ·rintro ⟨⟩ _ w p g h
      refine aN _ g h ?_
      obtain ⟨R,c,b⟩:=bind_some b
      refine aP [(0,(vS R))] [] ?_ ?_
      ·rcases ak c with⟨H,c⟩|⟨H,c⟩
       ·refine aB rfl H (aj (aa (vS o) ?_))
        obtain ⟨l,Æ,c⟩:=bind_some c
        refine iw un9 rfl rfl Æ wz (aa (vS l) (ah (au ?_)))
        obtain ⟨Ò,f,c⟩:=bind_some c
        refine aP [(0,(vS l)),(39,(vB Ò))] [] ?_ ?_
        ·refine bI (aa (vS l) (o5 un9 rfl wz (aa (vB (decide ((l.size:Int)>16))) ?_)))
         rcases ak f with⟨I,f⟩|⟨I,f⟩
         ·refine aD rfl I wz (aK (vS l) wa rfl ?_)
          obtain ⟨B,Y,f⟩:=bind_some f
          refine aF (dD Y) rfl FQ rfl rfl rfl rfl wa (aK (vS l) wa rfl ?_)
          obtain ⟨Ô,Ç,f⟩:=bind_some f
          refine iw un9 rfl rfl Ç wa ?_
          obtain ⟨C,Z,f⟩:=bind_some f
          refine aF (dD Z) rfl FQ rfl rfl rfl rfl wa (aK (.d (.int .u64 (orI .u64 B C))) wa rfl (aK (.d (.int .u64 (rH .u64 (orI .u64 B C) 9259542123273814144))) wa rfl (aK (vB ((rH .u64 (orI .u64 B C) 9259542123273814144)==0)) wa rfl (aa (vB ((rH .u64 (orI .u64 B C) 9259542123273814144)==0)) (ah ?_)))))
          obtain rfl:=af f
          exact cu
         ·refine aD rfl I wz (ae (ae (ae (ae (ae (ae (ae (ae (aa (vB false) (ah ?_))))))))))
          obtain rfl:=af f
          exact cu
        ·rintro ⟨⟩ _ w p g h
         refine aN _ g h ?_
         rcases ak c with⟨J,c⟩|⟨J,c⟩
         ·refine aB rfl J (aj (aa (vS l) ?_))
          obtain ⟨T,È,c⟩:=bind_some c
          refine iw un9 rfl rfl È wz (aa (vS T) (ah ?_))
          obtain ⟨Ð,N,c⟩:=bind_some c
          obtain ⟨Í,N⟩:=dJ N
          refine gq (λ(e:ByteArray)=>[(0,(vS e))]) (λ(e:ByteArray)=>[]) (λ(A:Nat)=>(λ(e:ByteArray)=>[(0,(vS e))])) (λs=>gY s) Ð Í T N rfl (aI rfl) ?_ ?_
          ·rintro ⟨A,e⟩ m
           dsimp only at m
           cases A with
           | zero=>cases m
           | succ A =>
            obtain ⟨W,i,m⟩:=bind_some m
            unfold gY at i
            refine au (au ?_)
            obtain ⟨Ó,a,i⟩:=bind_some i
            refine aP [(0,(vS e)),(62,(vB Ó))] [] ?_ ?_
            ·refine bI (aa (vS e) (o5 un9 rfl wz (aa (vB (decide ((e.size:Int)>32))) ?_)))
             rcases ak a with⟨K,a⟩|⟨K,a⟩
             ·refine aD rfl K wz (aK (vS e) wa rfl ?_)
              obtain ⟨q,À,a⟩:=bind_some a
              refine aF (dD À) rfl FQ rfl rfl rfl rfl wa (aK (vS e) wa rfl ?_)
              obtain ⟨Õ,É,a⟩:=bind_some a
              refine iw un9 rfl rfl É wa ?_
              obtain ⟨t,Á,a⟩:=bind_some a
              refine aF (dD Á) rfl FQ rfl rfl rfl rfl wa (aK (.d (.int .u64 (orI .u64 q t))) wa rfl (aK (vS e) wa rfl ?_))
              obtain ⟨Ö,Ê,a⟩:=bind_some a
              refine iw un9 rfl rfl Ê wa ?_
              obtain ⟨u,Â,a⟩:=bind_some a
              refine aF (dD Â) rfl FQ rfl rfl rfl rfl wa (aK (vS e) wa rfl ?_)
              obtain ⟨Ø,Ë,a⟩:=bind_some a
              refine iw un9 rfl rfl Ë wa ?_
              obtain ⟨v,Ã,a⟩:=bind_some a
              refine aF (dD Ã) rfl FQ rfl rfl rfl rfl wa (aK (.d (.int .u64 (orI .u64 u v))) wa rfl (aK (.d (.int .u64 (orI .u64 (orI .u64 q t) (orI .u64 u v)))) wa rfl (aK (.d (.int .u64 (rH .u64 (orI .u64 (orI .u64 q t) (orI .u64 u v)) 9259542123273814144))) wa rfl (aK (vB ((rH .u64 (orI .u64 (orI .u64 q t) (orI .u64 u v)) 9259542123273814144)==0)) wa rfl (aa (vB ((rH .u64 (orI .u64 (orI .u64 q t) (orI .u64 u v)) 9259542123273814144)==0)) (ah ?_))))))
              obtain rfl:=af a
              exact cu
             ·refine aD rfl K wz (ae (ae (ae (ae (ae (ae (ae (ae (ae (ae (ae (ae (ae (ae (ae (ae (aa (vB false) (ah ?_))))))))))))))))))
              obtain rfl:=af a
              exact cu
            ·rintro ⟨⟩ _ w p g h
             refine aN _ g h ?_
             rcases ak i with⟨L,i⟩|⟨L,i⟩
             ·refine aB rfl L (ax (aM (av (aa (vS e) ?_))))
              obtain ⟨U,Ì,i⟩:=bind_some i
              refine iw un9 rfl rfl Ì wz (aa (vS U) (ah ?_))
              obtain rfl:=af i
              exact aU (A,U) m (ls_ _) rfl (aI rfl)
             ·refine aA rfl L (aS ?_)
              obtain rfl:=af i
              obtain rfl:=af m
              exact aV (e) rfl rfl (aI rfl)
          ·rintro e O w p g h
           subst O
           obtain rfl:=af c
           exact aV () trivial (pick_at [0] g rfl) (pre_at h (aI rfl))
         ·refine aA rfl J (ax ?_)
          obtain rfl:=af c
          exact cu
       ·refine aA rfl H (ax ?_)
        obtain rfl:=af c
        exact cu
      ·rintro ⟨⟩ _ w p g h
       refine aN _ g h (aS ?_)
       obtain rfl:=af b
       exact aU (z,R) n (ls_ _) rfl (aI rfl)
    ·refine aA rfl F (ax (aj (aa (.d (.int .u8 (x.toNat:Int))) ?_)))
     cases b
   ·refine aA rfl E (aS ?_)
    obtain rfl:=af b
    obtain rfl:=af n
    exact aV (j) rfl rfl (aI rfl)
 ·rintro j O w p g h
  subst O
  refine aN _ g h (aj (aa (vB true) (ah ?_)))
  obtain rfl:=af y
  exact aC (aL [(vB true)] ⟨rfl,trivial⟩)
theorem wD {n:ByteArray} {c:Int} {r:ByteArray} (g:strings_trimRightByte n c=some r) :
  FnM Tryz.prog 202 [(vS n),(.d (.int .u8 c))] [] (vS r) []:=by
 refine FnM.of_wH ⟨Tryz.prog,23,[],[]⟩ rfl Tryz.func202 rfl rfl (lb_ rfl) (by kernel_rfl) ?_
 unfold strings_trimRightByte at g
 refine aj (aa (vS (⟨#[]⟩:ByteArray)) (ah (au ?_)))
 obtain ⟨x,k,g⟩:=bind_some g
 obtain ⟨w,k⟩:=dJ k
 refine gq (λ(a:ByteArray)=>[(0,(vS a))]) (λ(a:ByteArray)=>[]) (λ(h:Nat)=>(λ(a:ByteArray)=>[(0,(vS a)),(1,(.d (.int .u8 c)))])) (λs=>iX c s) x w n k rfl (aI rfl) ?_ ?_
 ·rintro ⟨h,a⟩ f
  dsimp only at f
  cases h with
  | zero=>cases f
  | succ h =>
   obtain ⟨A,b,f⟩:=bind_some f
   unfold iX at b
   refine au (au ?_)
   obtain ⟨z,e,b⟩:=bind_some b
   refine aP [(0,(vS a)),(1,(.d (.int .u8 c))),(16,(vB z))] [] ?_ ?_
   ·refine av (aa (vS a) (o5 un9 rfl wz (aa (vB (decide ((a.size:Int)>0))) ?_)))
    rcases ak e with⟨i,e⟩|⟨i,e⟩
    ·refine aD rfl i wz (aK (vS a) wa rfl (aK (vS a) wa rfl (o5 un9 rfl wa (aK (vI (w64 ((a.size:Int)-1))) wa rfl ?_))))
     obtain ⟨o,u,e⟩:=bind_some e
     refine lK un9 rfl rfl u wa (aK (.d (.int .u8 c)) wa rfl (aK (vB ((o.toNat:Int)==c)) wa rfl (aa (vB ((o.toNat:Int)==c)) (ah ?_))))
     obtain rfl:=af e
     exact cu
    ·refine aD rfl i wz (ae (ae (ae (ae (ae (ae (ae (aa (vB false) (ah ?_)))))))))
     obtain rfl:=af e
     exact cu
   ·rintro ⟨⟩ _ y q l m
    refine aN _ l m ?_
    rcases ak b with⟨j,b⟩|⟨j,b⟩
    ·refine aB rfl j (ax (aM (av (aa (vS a) (aa (vS a) (o5 un9 rfl wz (aa (vI (w64 ((a.size:Int)-1))) ?_)))))))
     obtain ⟨p,v,b⟩:=bind_some b
     refine Fy un9 rfl rfl v wz (aa (vS p) (ah ?_))
     obtain rfl:=af b
     exact aU (h,p) f (ls_ _) rfl (aI rfl)
    ·refine aA rfl j (aS ?_)
     obtain rfl:=af b
     obtain rfl:=af f
     exact aV (a) rfl rfl (aI rfl)
 ·rintro a t y q l m
  subst t
  refine aN _ l m (aj (aa (vS a) (aa (vS a) (ah ?_))))
  obtain rfl:=af g
  exact aC (aL [(vS a)] ⟨rfl,trivial⟩)
theorem xA {n:ByteArray} {c:Int} {r:ByteArray} (g:strings_trimLeftByte n c=some r) :
  FnM Tryz.prog 201 [(vS n),(.d (.int .u8 c))] [] (vS r) []:=by
 refine FnM.of_wH ⟨Tryz.prog,17,[],[]⟩ rfl Tryz.func201 rfl rfl (lb_ rfl) (by kernel_rfl) ?_
 unfold strings_trimLeftByte at g
 refine aj (aa (vS (⟨#[]⟩:ByteArray)) (ah (au ?_)))
 obtain ⟨x,k,g⟩:=bind_some g
 obtain ⟨w,k⟩:=dJ k
 refine gq (λ(a:ByteArray)=>[(0,(vS a))]) (λ(a:ByteArray)=>[]) (λ(h:Nat)=>(λ(a:ByteArray)=>[(0,(vS a)),(1,(.d (.int .u8 c)))])) (λs=>jg c s) x w n k rfl (aI rfl) ?_ ?_
 ·rintro ⟨h,a⟩ f
  dsimp only at f
  cases h with
  | zero=>cases f
  | succ h =>
   obtain ⟨A,b,f⟩:=bind_some f
   unfold jg at b
   refine au (au ?_)
   obtain ⟨z,e,b⟩:=bind_some b
   refine aP [(0,(vS a)),(1,(.d (.int .u8 c))),(13,(vB z))] [] ?_ ?_
   ·refine av (aa (vS a) (o5 un9 rfl wz (aa (vB (decide ((a.size:Int)>0))) ?_)))
    rcases ak e with⟨i,e⟩|⟨i,e⟩
    ·refine aD rfl i wz (aK (vS a) wa rfl ?_)
     obtain ⟨o,u,e⟩:=bind_some e
     refine lK un9 rfl rfl u wa (aK (.d (.int .u8 c)) wa rfl (aK (vB ((o.toNat:Int)==c)) wa rfl (aa (vB ((o.toNat:Int)==c)) (ah ?_))))
     obtain rfl:=af e
     exact cu
    ·refine aD rfl i wz (ae (ae (ae (ae (aa (vB false) (ah ?_))))))
     obtain rfl:=af e
     exact cu
   ·rintro ⟨⟩ _ y q l m
    refine aN _ l m ?_
    rcases ak b with⟨j,b⟩|⟨j,b⟩
    ·refine aB rfl j (ax (aM (av (aa (vS a) ?_))))
     obtain ⟨p,v,b⟩:=bind_some b
     refine iw un9 rfl rfl v wz (aa (vS p) (ah ?_))
     obtain rfl:=af b
     exact aU (h,p) f (ls_ _) rfl (aI rfl)
    ·refine aA rfl j (aS ?_)
     obtain rfl:=af b
     obtain rfl:=af f
     exact aV (a) rfl rfl (aI rfl)
 ·rintro a t y q l m
  subst t
  refine aN _ l m (aj (aa (vS a) (aa (vS a) (ah ?_))))
  obtain rfl:=af g
  exact aC (aL [(vS a)] ⟨rfl,trivial⟩)
theorem EJ {c:ByteArray} {b:ByteArray} {r:ByteArray} (a:qg c b=some r) :
  FnM Tryz.prog 192 [(vS c),(vS b)] [] (vS r) []:=by
 refine FnM.of_wH ⟨Tryz.prog,43,[],[]⟩ rfl Tryz.func192 rfl rfl (lb_ rfl) (by kernel_rfl) ?_
 unfold qg at a
 refine aj (aa (vS (⟨#[]⟩:ByteArray)) (ah (au (au ?_))))
 obtain ⟨v,e,a⟩:=bind_some a
 refine aP [(0,(vS c)),(1,(vS b)),(12,(vB v))] [] ?_ ?_
 ·refine av (aa (vS c) (aa (vB (sEq c (⟨#[]⟩:ByteArray))) ?_))
  rcases ak e with⟨g,e⟩|⟨g,e⟩
  ·refine aD rfl g wz (ae (ae (aa (vB true) (ah ?_))))
   obtain rfl:=af e
   exact cu
  ·refine aD rfl g wz (aK (vS b) wa rfl (aK (vB (sEq b (⟨#[]⟩:ByteArray))) wa rfl (aa (vB (sEq b (⟨#[]⟩:ByteArray))) (ah ?_))))
   obtain rfl:=af e
   exact cu
 ·rintro ⟨⟩ _ u n j k
  refine aN _ j k ?_
  rcases ak a with⟨h,a⟩|⟨h,a⟩
  ·refine aB rfl h (aj (aa (vS c) (aa (vS c) (ah ?_))))
   obtain rfl:=af a
   exact aC (aL [(vS c)] ⟨rfl,trivial⟩)
  ·refine aA rfl h (ax (au (au ?_)))
   obtain ⟨w,d,a⟩:=bind_some a
   refine aP [(0,(vS c)),(1,(vS b)),(21,(vB w))] [] ?_ ?_
   ·refine av (aa (vS b) (o5 un9 rfl wz (aa (vB ((b.size:Int)==1)) ?_)))
    rcases ak d with⟨i,d⟩|⟨i,d⟩
    ·refine aD rfl i wz (aK (vS b) wa rfl ?_)
     obtain ⟨l,q,d⟩:=bind_some d
     refine lK un9 rfl rfl q wa (aK (vB (decide ((l.toNat:Int)<128))) wa rfl (aa (vB (decide ((l.toNat:Int)<128))) (ah ?_)))
     obtain rfl:=af d
     exact cu
    ·refine aD rfl i wz (ae (ae (ae (aa (vB false) (ah ?_)))))
     obtain rfl:=af d
     exact cu
   ·rintro ⟨⟩ _ u n j k
    refine aN _ j k ?_
    rcases ak a with⟨f,a⟩|⟨f,a⟩
    ·refine aB rfl f (au (bI (aa (vS c) (aa (vS b) ?_))))
     obtain ⟨x,s,a⟩:=bind_some a
     refine lK un9 rfl rfl s wz ?_
     obtain ⟨z,o,a⟩:=bind_some a
     refine aF (wD o) rfl hb202 rfl rfl rfl rfl wz (aa (vS b) ?_)
     obtain ⟨y,t,a⟩:=bind_some a
     refine lK un9 rfl rfl t wz ?_
     obtain ⟨m,p,a⟩:=bind_some a
     refine aF (xA p) rfl hb201 rfl rfl rfl rfl wz (aa (vS m) (ah ?_))
     obtain rfl:=af a
     exact aC (aL [(vS m)] ⟨rfl,trivial⟩)
    ·refine aA rfl f (ax (au (aj (aa (vS b) ?_))))
     cases a
theorem pJ {b:ByteArray} {a:Int} {r:Int} (c:iM b a=some r) :
  FnM Tryz.prog 218 [(vS b),(.d (.int .u8 a))] [] (vI r) []:=by
 refine FnM.of_wH ⟨Tryz.prog,8,[],[]⟩ rfl Tryz.func218 rfl rfl (lb_ rfl) (by kernel_rfl) ?_
 unfold iM at c
 refine aj (aa (vI 0) (ah (aj (aa (vS b) (aa (.d (.int .u8 a)) (h_ext (ext_ixB (f:=224) Tryz.func224 rfl rfl (by kernel_rfl) (by kernel_rfl) _ _) rfl nb224 rfl wz (aa (vI (ixB b a)) (ah ?_))))))))
 obtain rfl:=af c
 exact aC (aL [(vI (ixB b a))] ⟨rfl,trivial⟩)
theorem rW {c:ByteArray} {b:ByteArray} {r:Int} (a:jN c b=some r) :
  FnM Tryz.prog 214 [(vS c),(vS b)] [] (vI r) []:=by
 refine FnM.of_wH ⟨Tryz.prog,143,[],[]⟩ rfl Tryz.func214 rfl rfl (lb_ rfl) (by kernel_rfl) ?_
 unfold jN at a
 refine aj (aa (vI 0) (ah (aj (aa (vS b) (o5 un9 rfl wz (aa (vI (b.size:Int)) (ah (au (aM (au ?_))))))))))
 obtain ⟨n,d,a⟩:=bind_some a
 refine aP [(0,(vS c)),(1,(vS b)),(5,(vI (b.size:Int))),(16,(vB n))] [] ?_ ?_
 ·refine av (aa (vI (b.size:Int)) (aa (vB ((b.size:Int)==0)) ?_))
  rcases ak d with⟨f,d⟩|⟨f,d⟩
  ·refine aD rfl f wz (ae (ae (ae (aa (vB true) (aa (vB true) (ah ?_))))))
   obtain rfl:=af d
   exact cu
  ·refine aD rfl f wz (aK (vS b) wa rfl (aK (vS c) wa rfl (aK (vB (sEq b c)) wa rfl (aa (vB (sEq b c)) (aa (vB (sEq b c)) (ah ?_))))))
   obtain rfl:=af d
   exact cu
 ·rintro ⟨⟩ _ q o j k
  refine aN _ j k ?_
  rcases ak a with⟨g,a⟩|⟨g,a⟩
  ·refine aB rfl g (aj (aa (vI 0) (ah ?_)))
   obtain rfl:=af a
   exact aC (aL [(vI 0)] ⟨rfl,trivial⟩)
  ·refine aA rfl g (aj (aa (vI (b.size:Int)) (aa (vB ((b.size:Int)==1)) (aa (vB ((b.size:Int)==1)) (ah ?_)))))
   rcases ak a with⟨h,a⟩|⟨h,a⟩
   ·refine aB rfl h (aj (aa (vS c) (aa (vS b) ?_)))
    obtain ⟨p,m,a⟩:=bind_some a
    refine lK un9 rfl rfl m wz ?_
    obtain ⟨i,l,a⟩:=bind_some a
    refine aF (pJ l) rfl hb218 rfl rfl rfl rfl wz (aa (vI i) (ah ?_))
    obtain rfl:=af a
    exact aC (aL [(vI i)] ⟨rfl,trivial⟩)
   ·refine aA rfl h (aj (aa (vI (b.size:Int)) (aa (vS c) (o5 un9 rfl wz (aa (vB (decide ((b.size:Int)>=(c.size:Int)))) (aa (vB (decide ((b.size:Int)>=(c.size:Int)))) (ah ?_)))))))
    rcases ak a with⟨e,a⟩|⟨e,a⟩
    ·refine aB rfl e (aj (aa (vI (-1)) (ah ?_)))
     obtain rfl:=af a
     exact aC (aL [(vI (-1))] ⟨rfl,trivial⟩)
    ·refine aA rfl e (aj (aa (vI (b.size:Int)) ?_))
     cases a
theorem DI {b:ByteArray} {c:ByteArray} {r:Int} (a:strings_Index b c=some r) :
  FnM Tryz.prog 208 [(vS b),(vS c)] [] (vI r) []:=by
 refine FnM.of_wH ⟨Tryz.prog,8,[],[]⟩ rfl Tryz.func208 rfl rfl (lb_ rfl) (by kernel_rfl) ?_
 unfold strings_Index at a
 refine aj (aa (vI 0) (ah (aj (aa (vS b) (aa (vS c) ?_)))))
 obtain ⟨d,e,a⟩:=bind_some a
 refine aF (rW e) rfl hb214 rfl rfl rfl rfl wz (aa (vI d) (ah ?_))
 obtain rfl:=af a
 exact aC (aL [(vI d)] ⟨rfl,trivial⟩)
theorem Au {c:ByteArray} {d:ByteArray} {r:Bool} (a:strings_Contains c d=some r) :
  FnM Tryz.prog 193 [(vS c),(vS d)] [] (vB r) []:=by
 refine FnM.of_wH ⟨Tryz.prog,9,[],[]⟩ rfl Tryz.func193 rfl rfl (lb_ rfl) (by kernel_rfl) ?_
 unfold strings_Contains at a
 refine aj (aa (vB false) (ah (aj (aa (vS c) (aa (vS d) ?_)))))
 obtain ⟨b,e,a⟩:=bind_some a
 refine aF (DI e) rfl hb208 rfl rfl rfl rfl wz (aa (vB (decide (b>=0))) (aa (vB (decide (b>=0))) (ah ?_)))
 obtain rfl:=af a
 exact aC (aL [(vB (decide (b>=0)))] ⟨rfl,trivial⟩)
theorem Fh {a:ByteArray} {r:Bool} (f:rE a=some r) :
  FnM Tryz.prog 173 [(vS a)] [] (vB r) []:=by
 refine FnM.of_wH ⟨Tryz.prog,33,[],[]⟩ rfl Tryz.func173 rfl rfl (lb_ rfl) (by kernel_rfl) ?_
 unfold rE at f
 refine aj (aa (vB false) (ah (au (aj (aa (vI 0) (ah ?_))))))
 obtain ⟨H,p,f⟩:=bind_some f
 obtain ⟨G,p⟩:=dJ p
 refine gq (λ(c:Int)=>[(0,(vS a))]) (λ(c:Int)=>[]) (λ(j:Nat)=>(λ(c:Int)=>[(0,(vS a)),(3,(vI c))])) (λs=>qm a s) H G 0 p rfl (aI rfl) ?_ ?_
 ·rintro ⟨j,c⟩ g
  dsimp only at g
  cases j with
  | zero=>cases g
  | succ j =>
   obtain ⟨J,d,g⟩:=bind_some g
   unfold qm at d
   refine au (aj (aa (vI c) (aa (vS a) (o5 un9 rfl wz (aa (vB (decide (c<(a.size:Int)))) (ah ?_))))))
   rcases ak d with⟨k,d⟩|⟨k,d⟩
   ·refine aB rfl k (ax (au (aM (au ?_))))
    obtain ⟨I,e,d⟩:=bind_some d
    refine aP [(0,(vS a)),(3,(vI c)),(19,(vB I))] [] ?_ ?_
    ·refine av (aa (vS a) (aa (vI c) ?_))
     obtain ⟨y,E,e⟩:=bind_some e
     refine lK un9 rfl rfl E wz (aa (vB (decide ((y.toNat:Int)<32))) ?_)
     rcases ak e with⟨l,e⟩|⟨l,e⟩
     ·refine aD rfl l wz (ae (ae (ae (ae (aa (vB true) (ah ?_))))))
      obtain rfl:=af e
      exact cu
     ·refine aD rfl l wz (aK (vS a) wa rfl (aK (vI c) wa rfl ?_))
      obtain ⟨u,F,e⟩:=bind_some e
      refine lK un9 rfl rfl F wa (aK (vB ((u.toNat:Int)==127)) wa rfl (aa (vB ((u.toNat:Int)==127)) (ah ?_)))
      obtain rfl:=af e
      exact cu
    ·rintro ⟨⟩ _ w t h i
     refine aN _ h i ?_
     rcases ak d with⟨m,d⟩|⟨m,d⟩
     ·refine aB rfl m (aj (aa (vB false) (ah ?_)))
      obtain rfl:=af d
      obtain rfl:=af g
      obtain rfl:=af f
      exact aC (aL [(vB false)] ⟨rfl,trivial⟩)
     ·refine aA rfl m (ax (av (aa (vI c) (aa (vI (w64 (c+1))) (aa (vI (w64 (c+1))) (ah ?_))))))
      obtain rfl:=af d
      exact aU (j,(w64 (c+1))) g (ls_ _) rfl (aI rfl)
   ·refine aA rfl k (aS ?_)
    obtain rfl:=af d
    obtain rfl:=af g
    exact aV (c) rfl rfl (aI rfl)
 ·rintro c z w t h i
  subst z
  refine aN _ h i (au ?_)
  obtain ⟨x,b,f⟩:=bind_some f
  refine aP [(2,(vB x))] [] ?_ ?_
  ·refine av (aa (vS a) ?_)
   obtain ⟨K,A,b⟩:=bind_some b
   refine aF (uf A) rfl hb191 rfl rfl rfl rfl wz ?_
   rcases ak b with⟨n,b⟩|⟨n,b⟩
   ·refine aD rfl n wz (aK (vS a) wa rfl ?_)
    obtain ⟨v,B,b⟩:=bind_some b
    refine aF (EJ B) rfl hb192 rfl rfl rfl rfl wa (aK (vS a) wa rfl (aK (vB (sEq v a)) wa rfl (aa (vB (sEq v a)) ?_)))
    rcases ak b with⟨o,b⟩|⟨o,b⟩
    ·refine aD rfl o wz (aK (vS a) wa rfl ?_)
     obtain ⟨q,C,b⟩:=bind_some b
     refine aF (Au C) rfl hb193 rfl rfl rfl rfl wa (aK (vB (!q)) wa rfl (aa (vB (!q)) (aa (vB (!q)) (ah ?_))))
     obtain rfl:=af b
     exact cu
    ·refine aD rfl o wz (ae (ae (ae (aa (vB false) (aa (vB false) (ah ?_))))))
     obtain rfl:=af b
     exact cu
   ·refine aD rfl n wz (ae (ae (ae (ae (aa (vB false) (aa (vB false) (ae (ae (ae (aa (vB false) (aa (vB false) (ah ?_))))))))))))
    obtain rfl:=af b
    exact cu
  ·rintro ⟨⟩ _ w t h i
   refine aN _ h i ?_
   obtain rfl:=af f
   exact aC (aL [(vB x)] ⟨rfl,trivial⟩)
end Go.Proofs.YtadpbmfnnlkdlabGreatDoor.Law

