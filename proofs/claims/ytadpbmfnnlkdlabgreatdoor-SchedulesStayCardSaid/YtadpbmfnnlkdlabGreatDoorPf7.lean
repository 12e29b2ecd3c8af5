/-
 The machine computes these plain functions (written by a program of ours).
-/
import Derived.Test.YtadpbmfnnlkdlabGreatDoorFacts
import Derived.Test.YtadpbmfnnlkdlabGreatDoorDefs
import Derived.Test.YtadpbmfnnlkdlabGreatDoorPf6
open Go Go.Eng Go.Proofs
namespace Go.Proofs.YtadpbmfnnlkdlabGreatDoor.Law
set_option maxRecDepth 100000
set_option linter.unusedVariables false
set_option maxHeartbeats 1000000
theorem Ap {b:Alert} {r:Int} (a:kP b=some r) :
  FnM Tryz.prog 141 [(.d (.agg (Alert.enc b)))] [] (vI r) []:=by
 refine FnM.of_wH ⟨Tryz.prog,92,[],[]⟩ rfl Tryz.func141 rfl rfl (lb_ rfl) (by kernel_rfl) ?_
 unfold kP at a
 refine aj (dQ 0 (.inl rfl) (Alert.v b) rfl rfl wz (λh=>aa (vI 0) (ah (au (au ?_)))))
 obtain ⟨Ê,f,a⟩:=bind_some a
 refine aP [(1,(.ref h 0 0)),(17,(vB Ê))] [(h,some (.cells 9 (Alert.v b)))] ?_ ?_
 ·refine av (aH Dr rfl 0 rfl wz (ay 0 0 il ft sz9 ag9 rfl rfl (vS b.Id) rfl wz ?_))
  obtain ⟨È,Á,f⟩:=bind_some f
  refine aF (fK Á) rfl Dk rfl rfl rfl rfl wz (aa (vB (!È)) ?_)
  rcases ak f with⟨K,f⟩|⟨K,f⟩
  ·refine aD rfl K wz (ae (ae (ae (ae (aa (vB true) (ah ?_))))))
   obtain rfl:=af f
   exact cu
  ·refine aD rfl K wz (aH pl97_1 rfl 1 rfl wa (ay 0 0 il ft sz9 ag9 rfl rfl (vS b.Sender) rfl wa ?_))
   obtain ⟨P,Â,f⟩:=bind_some f
   refine aF (fK Â) rfl Dk rfl rfl rfl rfl wa (aK (vB (!P)) wa rfl (aa (vB (!P)) (ah ?_)))
   obtain rfl:=af f
   exact cu
 ·rintro ⟨⟩ _ N t i j
  refine aN _ i j ?_
  rcases ak a with⟨u,a⟩|⟨u,a⟩
  ·refine aB rfl u (aj (aa (vI 5) (ah ?_)))
   obtain rfl:=af a
   exact aC (aL [(vI 5)] ⟨rfl,trivial⟩)
  ·refine aA rfl u (ax (au (aj (aH Mw rfl 2 rfl wz (ay 0 0 il ft sz3 ag3 rfl rfl (vI b.Kind) rfl wz ?_)))))
   obtain ⟨Î,T,a⟩:=bind_some a
   refine aF (bH T) rfl tT rfl rfl rfl rfl wz (ah ?_)
   rcases ak a with⟨w,a⟩|⟨w,a⟩
   ·refine aB rfl w (aj (aa (vI 4) (ah ?_)))
    obtain rfl:=af a
    exact aC (aL [(vI 4)] ⟨rfl,trivial⟩)
   ·refine aA rfl w (ax (au (aj (ay 0 0 il ft Ez Kj rfl rfl (.d (.agg (Alert.enc b))) rfl wz ?_))))
    obtain ⟨o,U,a⟩:=bind_some a
    refine aF (Bo U) rfl hb172 rfl rfl rfl rfl wz (aa (vI o) (ah (aj (aa (vI o) (aa (vB (o != 0)) (ah ?_))))))
    rcases ak a with⟨y,a⟩|⟨y,a⟩
    ·refine aB rfl y (aj (aa (vI o) (aa (vI o) (ah ?_))))
     obtain rfl:=af a
     exact aC (aL [(vI o)] ⟨rfl,trivial⟩)
    ·refine aA rfl y (ax (au (au ?_)))
     obtain ⟨É,c,a⟩:=bind_some a
     refine aP [(1,(.ref h 0 0)),(45,(vB É))] [(h,some (.cells 9 (Alert.v b)))] ?_ ?_
     ·refine av (aH G7 rfl 4 rfl wz (ay 0 0 il ft sz3 ag3 rfl rfl (vI b.At) rfl wz ?_))
      obtain ⟨Ä,W,c⟩:=bind_some c
      refine aF (iC W) rfl LJ rfl rfl rfl rfl wz (aa (vB (!Ä)) ?_)
      rcases ak c with⟨z,c⟩|⟨z,c⟩
      ·refine aD rfl z wz (ae (ae (ae (ae (ae (ae (ae (ae (ae (aa (vB true) (aa (vB true) (ae (ae (ae (aa (vB true) (ah ?_))))))))))))))))
       obtain rfl:=af c
       exact cu
      ·refine aD rfl z wz (aH pl97_5 rfl 5 rfl wa (ay 0 0 il ft sz3 ag3 rfl rfl (vI b.Until) rfl wa (aH G7 rfl 4 rfl wa (ay 0 0 il ft sz3 ag3 rfl rfl (vI b.At) rfl wa (aK (vI (w64 (b.At+1))) wa rfl (aH G7 rfl 4 rfl wa (ay 0 0 il ft sz3 ag3 rfl rfl (vI b.At) rfl wa (aK (vI (w64 (b.At+2592000000))) wa rfl ?_))))))))
       obtain ⟨Å,X,c⟩:=bind_some c
       refine aF (bH X) rfl tT rfl rfl rfl rfl wa (aa (vB Å) ?_)
       rcases ak c with⟨A,c⟩|⟨A,c⟩
       ·refine aD rfl A wz (ae (ae (ae (aa (vB true) (ah ?_)))))
        obtain rfl:=af c
        exact cu
       ·refine aD rfl A wz (aH pl97_6 rfl 6 rfl wa (ay 0 0 il ft sz3 ag3 rfl rfl (vI b.Weight) rfl wa ?_))
        obtain ⟨Æ,Y,c⟩:=bind_some c
        refine aF (bH Y) rfl tT rfl rfl rfl rfl wa (aa (vB Æ) (ah ?_))
        obtain rfl:=af c
        exact cu
     ·rintro ⟨⟩ _ N t i j
      refine aN _ i j ?_
      rcases ak a with⟨B,a⟩|⟨B,a⟩
      ·refine aB rfl B (aj (aa (vI 1) (ah ?_)))
       obtain rfl:=af a
       exact aC (aL [(vI 1)] ⟨rfl,trivial⟩)
      ·refine aA rfl B (ax (au (aj (aH Jf rfl 7 rfl wz (ay 0 0 il ft N8 Oy rfl rfl (vL Rect.enc b.Areas) rfl wz (bS DL rfl wz (aa (vB (decide ((b.Areas.length:Int)>20))) (ah ?_))))))))
       rcases ak a with⟨C,a⟩|⟨C,a⟩
       ·refine aB rfl C (aj (aa (vI 2) (ah ?_)))
        obtain rfl:=af a
        exact aC (aL [(vI 2)] ⟨rfl,trivial⟩)
       ·refine aA rfl C (ax (au (aj (aH Jf rfl 7 rfl wz (ay 0 0 il ft N8 Oy rfl rfl (vL Rect.enc b.Areas) rfl wz (bS DL rfl wz (aa (vI 0) (ah ?_))))))))
        obtain ⟨Ã,L,a⟩:=bind_some a
        obtain ⟨Q,L⟩:=aW L
        refine cz (λ(q:Unit)=>[(1,(.ref h 0 0))]) (λ(q:Unit)=>[(h,some (.cells 9 (Alert.v b)))]) (λ(n:Nat)=>(λ(q:Unit)=>[(1,(.ref h 0 0)),(51,(vL Rect.enc b.Areas)),(52,(vI (b.Areas.length:Int))),(53,(vI (n:Int)))])) (λk x s=>kM k x s) Ã b.Areas () L rfl (aI rfl) ?_ ?_
        ·rintro ⟨n,M,q⟩ ⟨m,l⟩
         dsimp only at m l
         cases M with
         | nil =>
          obtain rfl:=af m
          refine aj (aa (vB (decide ((n:Int)<(b.Areas.length:Int)))) (ah ?_))
          refine au (aA rfl (drop_nil l) (aS ?_))
          exact aV (q) rfl rfl (aI rfl)
         | cons O M =>
          obtain ⟨Ì,g,m⟩:=bind_some m
          refine aj (aa (vB (decide ((n:Int)<(b.Areas.length:Int)))) (ah ?_))
          refine au (aB rfl (bv l) (ax ?_))
          unfold kM at g
          refine au (aM (aj (dR Jg rfl rfl (bJ l) rfl wz (bN zt LP rfl (.d (.agg (Rect.enc O))) rfl wz (bZ 0 (.inl rfl) z84 rfl wz (λÍ=>dY 0 il ft 1 zt rfl rfl (Rect.v O) rfl wz (ah (aj (ay 0 1 il ft zt LP rfl rfl (.d (.agg (Rect.enc O))) rfl wz ?_)))))))))
          obtain ⟨p,Z,g⟩:=bind_some g
          refine aF (tC Z) rfl hb93 rfl rfl rfl rfl wz (aa (vI p) (ah (aj (aa (vI p) (aa (vB (p != 0)) (ah ?_))))))
          rcases ak g with⟨E,g⟩|⟨E,g⟩
          ·refine aB rfl E (aj (aa (vI p) (aa (vI p) (ah ?_))))
           obtain rfl:=af g
           obtain rfl:=af m
           obtain rfl:=af a
           exact aC (aL [(vI p)] ⟨rfl,trivial⟩)
          ·refine aA rfl E (ax (av (dX (bD l Q) wz rfl (aa (vI ((n+1:Nat):Int)) (ah ?_)))))
           obtain rfl:=af g
           exact aU (n+1,M,()) ⟨m,aQ l⟩ (ls_ _) rfl (aI rfl)
        ·rintro q R N t i j
         subst R
         refine aN _ i j (aj (aH Mw rfl 2 rfl wz (ay 0 0 il ft sz3 ag3 rfl rfl (vI b.Kind) rfl wz (aa (vB (b.Kind==3)) (aa (vB (b.Kind==3)) (ah (au (aM (aj (aa (vB (b.Kind==3)) (aH Jf rfl 7 rfl wz (ay 0 0 il ft N8 Oy rfl rfl (vL Rect.enc b.Areas) rfl wz (bS DL rfl wz (aa (vB ((b.Areas.length:Int)==0)) (Qu un4 rfl rfl wz (aa (vB (!((b.Kind==3)==((b.Areas.length:Int)==0)))) (ah ?_)))))))))))))))))
         rcases ak a with⟨F,a⟩|⟨F,a⟩
         ·refine aB rfl F (aj (aa (vI 3) (ah ?_)))
          obtain rfl:=af a
          exact aC (aL [(vI 3)] ⟨rfl,trivial⟩)
         ·refine aA rfl F (aj (aH Mg rfl 8 rfl wz (ay 0 0 il ft sz9 ag9 rfl rfl (vS b.Text) rfl wz (o5 un9 rfl wz (aa (vB (decide ((b.Text.size:Int)>500))) (aa (vB (decide ((b.Text.size:Int)>500))) (ah ?_)))))))
          rcases ak a with⟨G,a⟩|⟨G,a⟩
          ·refine aB rfl G (aj (aa (vI 2) (ah ?_)))
           obtain rfl:=af a
           exact aC (aL [(vI 2)] ⟨rfl,trivial⟩)
          ·refine aA rfl G (au ?_)
           obtain ⟨Ë,e,a⟩:=bind_some a
           refine aP [(78,(vB Ë))] [(h,some (.cells 9 (Alert.v b)))] ?_ ?_
           ·refine av (aH Mg rfl 8 rfl wz (ay 0 0 il ft sz9 ag9 rfl rfl (vS b.Text) rfl wz ?_))
            obtain ⟨Ç,À,e⟩:=bind_some e
            refine aF (Fh À) rfl hb173 rfl rfl rfl rfl wz (aa (vB (!Ç)) ?_)
            rcases ak e with⟨H,e⟩|⟨H,e⟩
            ·refine aD rfl H wz (ae (ae (ae (ae (dw (wn rfl rfl) (dw (wn rfl rfl) (ae (aa (vB true) (aa (vB true) (ah ?_))))))))))
             obtain rfl:=af e
             exact cu
            ·refine aD rfl H wz (aH Mg rfl 8 rfl wa (ay 0 0 il ft sz9 ag9 rfl rfl (vS b.Text) rfl wa (aK (vB (sEq b.Text (⟨#[]⟩:ByteArray))) wa rfl ?_)))
             rcases ak e with⟨I,e⟩|⟨I,e⟩
             ·refine aD rfl I wa (aK (vB (b.Kind==3)) wa rfl (aK (vB (!(b.Kind==3))) wa rfl (aK (vB (!(b.Kind==3))) wa rfl (aa (vB (!(b.Kind==3))) (aa (vB (!(b.Kind==3))) (ah ?_))))))
              obtain rfl:=af e
              exact cu
             ·refine aD rfl I wa (ae (ae (aK (vB false) wa rfl (aa (vB false) (aa (vB false) (ah ?_))))))
              obtain rfl:=af e
              exact cu
           ·rintro ⟨⟩ _ N t i j
            refine aN _ i j ?_
            rcases ak a with⟨J,a⟩|⟨J,a⟩
            ·refine aB rfl J (aj (aa (vI 3) (ah ?_)))
             obtain rfl:=af a
             exact aC (aL [(vI 3)] ⟨rfl,trivial⟩)
            ·refine aA rfl J (ax (aj (aa (vI 0) (ah ?_))))
             obtain rfl:=af a
             exact aC (aL [(vI 0)] ⟨rfl,trivial⟩)
theorem Dp {b:Alert} {c:Alert} {r:Int} (a:qY b c=some r) :
  FnM Tryz.prog 142 [(.d (.agg (Alert.enc b))),(.d (.agg (Alert.enc c)))] [] (vI r) []:=by
 refine FnM.of_wH ⟨Tryz.prog,17,[],[]⟩ rfl Tryz.func142 rfl rfl (lb_ rfl) (by kernel_rfl) ?_
 unfold qY at a
 refine aj (dQ 0 (.inl rfl) (Alert.v b) rfl rfl wz (λk=>dQ 0 (.inl rfl) (Alert.v c) rfl rfl wz (λl=>aa (vI 0) (ah (au (bI (aH G7 rfl 4 rfl wz (ay 1 0 (.inr (by kernel_rfl)) (λ_ _ ag=>trivial) sz3 ag3 rfl rfl (vI b.At) rfl wz (aH G7 rfl 4 rfl wz (ay 3 1 (.inr (by kernel_rfl)) (λ_ _ ag=>⟨.inl ⟨rfl,rfl⟩,trivial⟩) sz3 ag3 rfl rfl (vI c.At) rfl wz ?_))))))))))
 obtain ⟨i,g,a⟩:=bind_some a
 refine aF (jH g) rfl QT rfl rfl rfl rfl wz (aH Dr rfl 0 rfl wz (ay 6 0 (.inr (by kernel_rfl)) (λ_ _ ag=>⟨.inl ⟨rfl,rfl⟩,⟨.inl ⟨rfl,rfl⟩,trivial⟩⟩) sz9 ag9 rfl rfl (vS b.Id) rfl wz (aH Dr rfl 0 rfl wz (ay 8 1 (.inr (by kernel_rfl)) (λ_ _ ag=>⟨.inl ⟨rfl,rfl⟩,⟨.inl ⟨rfl,rfl⟩,⟨.inl ⟨rfl,rfl⟩,trivial⟩⟩⟩) sz9 ag9 rfl rfl (vS c.Id) rfl wz ?_))))
 obtain ⟨j,h,a⟩:=bind_some a
 refine aF (oV h) rfl hb84 rfl rfl rfl rfl wz (eP (([i,j]:List Int).map eI) ko yQ rfl rfl rfl rfl rfl wz ?_)
 obtain ⟨e,f,a⟩:=bind_some a
 refine aF (wF f) rfl hb83 rfl rfl rfl rfl wz (aa (vI e) (ah ?_))
 obtain rfl:=af a
 exact aC (aL [(vI e)] ⟨rfl,trivial⟩)
theorem zO {a:(List Alert)} {r:Int} (c:ku a=some r) :
  FnM Tryz.prog 105 [(vL Alert.enc a)] [] (vI r) []:=by
 refine FnM.of_wH ⟨Tryz.prog,52,[],[]⟩ rfl Tryz.func105 rfl rfl (lb_ rfl) (by kernel_rfl) ?_
 unfold ku at c
 refine aj (aa (vI 0) (ah (au (aj (aa (vL Alert.enc a) (bS Qt rfl wz (aa (vB (decide ((a.length:Int)>300))) (ah ?_))))))))
 rcases ak c with⟨C,c⟩|⟨C,c⟩
 ·refine aB rfl C (aj (aa (vI 2) (ah ?_)))
  obtain rfl:=af c
  exact aC (aL [(vI 2)] ⟨rfl,trivial⟩)
 ·refine aA rfl C (ax (au (aj (aa (vL Alert.enc a) (bS Qt rfl wz (aa (vI 0) (ah ?_)))))))
  obtain ⟨X,G,c⟩:=bind_some c
  obtain ⟨Q,G⟩:=aW G
  refine cz (λ(w:Unit)=>[(0,(vL Alert.enc a))]) (λ(w:Unit)=>[]) (λ(e:Nat)=>(λ(w:Unit)=>[(0,(vL Alert.enc a)),(12,(vL Alert.enc a)),(13,(vI (a.length:Int))),(14,(vI (e:Int)))])) (λk x s=>jd a k x s) X a () G rfl (aI rfl) ?_ ?_
  ·rintro ⟨e,K,w⟩ ⟨i,l⟩
   dsimp only at i l
   cases K with
   | nil =>
    obtain rfl:=af i
    refine aj (aa (vB (decide ((e:Int)<(a.length:Int)))) (ah ?_))
    refine au (aA rfl (drop_nil l) (aS ?_))
    exact aV (w) rfl rfl (aI rfl)
   | cons y K =>
    obtain ⟨O,b,i⟩:=bind_some i
    refine aj (aa (vB (decide ((e:Int)<(a.length:Int)))) (ah ?_))
    refine au (aB rfl (bv l) (ax ?_))
    unfold jd at b
    refine au (aM (aj (aa (vI (e:Int)) (dR NL rfl rfl (bJ l) rfl wz (bN Ez Kj rfl (.d (.agg (Alert.enc y))) rfl wz (bZ 0 (.inl rfl) z97 rfl wz (λW=>aa (vI (e:Int)) (dY 0 il ft 0 Ez rfl rfl (Alert.v y) rfl wz (ah (au (aj (ay 0 0 il ft Ez Kj rfl rfl (.d (.agg (Alert.enc y))) rfl wz ?_))))))))))))
    obtain ⟨p,R,b⟩:=bind_some b
    refine aF (Ap R) rfl hb141 rfl rfl rfl rfl wz (aa (vI p) (ah (aj (aa (vI p) (aa (vB (p != 0)) (ah ?_))))))
    rcases ak b with⟨A,b⟩|⟨A,b⟩
    ·refine aB rfl A (aj (aa (vI p) (aa (vI p) (ah ?_))))
     obtain rfl:=af b
     obtain rfl:=af i
     obtain rfl:=af c
     exact aC (aL [(vI p)] ⟨rfl,trivial⟩)
    ·refine aA rfl A (ax (au ?_))
     obtain ⟨Z,g,b⟩:=bind_some b
     refine aP [(0,(vL Alert.enc a)),(12,(vL Alert.enc a)),(13,(vI (a.length:Int))),(14,(vI (e:Int))),(35,(vB Z))] [(W,some (.cells 9 (Alert.v y)))] ?_ ?_
     ·refine bI (aa (vI (e:Int)) (aa (vB (decide ((e:Int)>0))) ?_))
      rcases ak g with⟨B,g⟩|⟨B,g⟩
      ·refine aD rfl B wz (aK (vL Alert.enc a) wa rfl (aK (vI (e:Int)) wa rfl (aK (vI (w64 ((e:Int)-1))) wa rfl ?_)))
       obtain ⟨À,U,g⟩:=bind_some g
       refine dR NL rfl rfl U rfl wa (bN Ez Kj rfl (.d (.agg (Alert.enc À))) rfl wa (ay 8 0 (.inr (by kernel_rfl)) (λ_ _ ag=>trivial) Ez Kj rfl rfl (.d (.agg (Alert.enc y))) rfl wa ?_))
       obtain ⟨M,T,g⟩:=bind_some g
       refine aF (Dp T) rfl hb142 rfl rfl rfl rfl wa (aK (vB (decide (M>=0))) wa rfl (aa (vB (decide (M>=0))) (ah ?_)))
       obtain rfl:=af g
       exact cu
      ·refine aD rfl B wz (ae (ae (ae (ae (ae (ae (ae (ae (aa (vB false) (ah ?_))))))))))
       obtain rfl:=af g
       exact cu
     ·rintro ⟨⟩ _ N L q t
      refine aN _ q t ?_
      rcases ak b with⟨E,b⟩|⟨E,b⟩
      ·refine aB rfl E (aj (aa (vI 7) (ah ?_)))
       obtain rfl:=af b
       obtain rfl:=af i
       obtain rfl:=af c
       exact aC (aL [(vI 7)] ⟨rfl,trivial⟩)
      ·refine aA rfl E (ax (av (dX (bD l Q) wz rfl (aa (vI ((e+1:Nat):Int)) (ah ?_)))))
       obtain rfl:=af b
       exact aU (e+1,K,()) ⟨i,aQ l⟩ (ls_ _) rfl (aI rfl)
  ·rintro w I N L q t
   subst I
   refine aN _ q t (aj (Nj 0 (.inl rfl) wz (λu=>Io (b':=some (bM D.str D.bool ([]:List (ByteArray×Bool)))) 0 rfl rfl (aa (.map u) (ah (au (aj (aa (vL Alert.enc a) (bS Qt rfl wz (aa (vI 0) (ah ?_)))))))))))
   obtain ⟨Y,H,c⟩:=bind_some c
   obtain ⟨P,H⟩:=aW H
   refine cz (λ(f:(List (ByteArray×Bool)))=>[]) (λ(f:(List (ByteArray×Bool)))=>[(u,some (bM D.str D.bool f))]) (λ(o:Nat)=>(λ(f:(List (ByteArray×Bool)))=>[(6,(.map u)),(38,(vL Alert.enc a)),(39,(vI (a.length:Int))),(40,(vI (o:Int)))])) (λk x s=>jW k x s) Y a ([]:List (ByteArray×Bool)) H rfl (aI rfl) ?_ ?_
   ·rintro ⟨o,J,f⟩ ⟨m,j⟩
    dsimp only at m j
    cases J with
    | nil =>
     obtain rfl:=af m
     refine aj (aa (vB (decide ((o:Int)<(a.length:Int)))) (ah ?_))
     refine au (aA rfl (drop_nil j) (aS ?_))
     exact aV (f) rfl rfl (aI rfl)
    | cons h J =>
     obtain ⟨O,n,m⟩:=bind_some m
     refine aj (aa (vB (decide ((o:Int)<(a.length:Int)))) (ah ?_))
     refine au (aB rfl (bv j) (ax ?_))
     unfold jW at n
     refine au (aM (aj (dR NL rfl rfl (bJ j) rfl wz (bN Ez Kj rfl (.d (.agg (Alert.enc h))) rfl wz (bZ 0 (.inl rfl) z97 rfl wz (λÁ=>dY 0 il ft 1 Ez rfl rfl (Alert.v h) rfl wz (ah (au (aj (aa (.map u) (aH Dr rfl 0 rfl wz (ay 0 1 il ft sz9 ag9 rfl rfl (vS h.Id) rfl wz (F5 (eq:=eqS) (kD:=D.str) (vD:=D.bool) (es:=f) (k:=h.Id) (z:=false) 0 0 il ft (λ_ _=>rfl) mt208 (by kernel_rfl) (by kernel_rfl) rfl rfl rfl (vB ((dK eqS f h.Id).getD false)) rfl wz (ah ?_))))))))))))))
     rcases ak n with⟨F,n⟩|⟨F,n⟩
     ·refine aB rfl F (aj (aa (vI 6) (ah ?_)))
      obtain rfl:=af n
      obtain rfl:=af m
      obtain rfl:=af c
      exact aC (aL [(vI 6)] ⟨rfl,trivial⟩)
     ·refine aA rfl F (ax (av (aa (.map u) (aH Dr rfl 0 rfl wz (ay 0 1 il ft sz9 ag9 rfl rfl (vS h.Id) rfl wz (K5 (eq:=eqS) (kD:=D.str) (vD:=D.bool) (es:=f) (k:=h.Id) (v:=true) 0 0 il ft (λ_ _=>rfl) mt208 (by kernel_rfl) rfl rfl rfl rfl wz (ah (av (dX (bD j P) wz rfl (aa (vI ((o+1:Nat):Int)) (ah ?_)))))))))))
      obtain rfl:=af n
      exact aU (o+1,J,(Dt eqS f h.Id true)) ⟨m,aQ j⟩ (ls_ _) rfl (aI rfl)
   ·rintro f I N L q t
    subst I
    refine aN _ q t (aj (aa (vI 0) (ah ?_)))
    obtain rfl:=af c
    exact aC (aL [(vI 0)] ⟨rfl,trivial⟩)
theorem Av {b:(List Post)} {r:Int} (e:lh b=some r) :
  FnM Tryz.prog 106 [(vL Post.enc b)] [] (vI r) []:=by
 refine FnM.of_wH ⟨Tryz.prog,44,[],[]⟩ rfl Tryz.func106 rfl rfl (lb_ rfl) (by kernel_rfl) ?_
 unfold lh at e
 refine aj (aa (vI 0) (ah (au (aj (aa (vL Post.enc b) (bS un134 rfl wz (aa (vB (decide ((b.length:Int)>500))) (ah ?_))))))))
 rcases ak e with⟨q,e⟩|⟨q,e⟩
 ·refine aB rfl q (aj (aa (vI 2) (ah ?_)))
  obtain rfl:=af e
  exact aC (aL [(vI 2)] ⟨rfl,trivial⟩)
 ·refine aA rfl q (ax (au (aj (aa (vL Post.enc b) (bS un134 rfl wz (aa (vI 0) (ah ?_)))))))
  obtain ⟨N,z,e⟩:=bind_some e
  obtain ⟨H,z⟩:=aW z
  refine cz (λ(o:Unit)=>[]) (λ(o:Unit)=>[]) (λ(c:Nat)=>(λ(o:Unit)=>[(0,(vL Post.enc b)),(8,(vL Post.enc b)),(9,(vI (b.length:Int))),(10,(vI (c:Int)))])) (λk x s=>jv b k x s) N b () z rfl (aI rfl) ?_ ?_
  ·rintro ⟨c,A,o⟩ ⟨h,l⟩
   dsimp only at h l
   cases A with
   | nil =>
    obtain rfl:=af h
    refine aj (aa (vB (decide ((c:Int)<(b.length:Int)))) (ah ?_))
    refine au (aA rfl (drop_nil l) (aS ?_))
    exact aV (o) rfl rfl (aI rfl)
   | cons f A =>
    obtain ⟨Q,a,h⟩:=bind_some h
    refine aj (aa (vB (decide ((c:Int)<(b.length:Int)))) (ah ?_))
    refine au (aB rfl (bv l) (ax ?_))
    unfold jv at a
    refine au (aM (aj (aa (vI (c:Int)) (dR Pm rfl rfl (bJ l) rfl wz (bN Nw Qw rfl (.d (.agg (Post.enc f))) rfl wz (bZ 0 (.inl rfl) z101 rfl wz (λB=>aa (vI (c:Int)) (dY 0 il ft 0 Nw rfl rfl (Post.v f) rfl wz (ah (aM (aj (aH Jl rfl 0 rfl wz (ay 0 0 il ft sz9 ag9 rfl rfl (vS f.Player) rfl wz ?_)))))))))))))
    obtain ⟨E,J,a⟩:=bind_some a
    refine aF (fK J) rfl Dk rfl rfl rfl rfl wz (aa (vB (!E)) (aa (vB (!E)) (ah ?_)))
    rcases ak a with⟨p,a⟩|⟨p,a⟩
    ·refine aB rfl p (aj (aa (vI 5) (ah ?_)))
     obtain rfl:=af a
     obtain rfl:=af h
     obtain rfl:=af e
     exact aC (aL [(vI 5)] ⟨rfl,trivial⟩)
    ·refine aA rfl p (au ?_)
     obtain ⟨O,g,a⟩:=bind_some a
     refine aP [(0,(vL Post.enc b)),(3,(vI (c:Int))),(4,(.ref B 0 0)),(8,(vL Post.enc b)),(9,(vI (b.length:Int))),(10,(vI (c:Int))),(20,(vB O))] [(B,some (.cells 3 (Post.v f)))] ?_ ?_
     ·refine av (aH Jz rfl 1 rfl wz (ay 0 0 il ft sz3 ag3 rfl rfl (vI f.X) rfl wz ?_))
      obtain ⟨R,K,g⟩:=bind_some g
      refine aF (bH K) rfl tT rfl rfl rfl rfl wz ?_
      rcases ak g with⟨t,g⟩|⟨t,g⟩
      ·refine aD rfl t wz (ae (ae (ae (aa (vB true) (aa (vB true) (ah ?_))))))
       obtain rfl:=af g
       exact cu
      ·refine aD rfl t wz (aH JE rfl 2 rfl wa (ay 0 0 il ft sz3 ag3 rfl rfl (vI f.Y) rfl wa ?_))
       obtain ⟨F,L,g⟩:=bind_some g
       refine aF (bH L) rfl tT rfl rfl rfl rfl wa (aa (vB F) (aa (vB F) (ah ?_)))
       obtain rfl:=af g
       exact cu
     ·rintro ⟨⟩ _ G C m n
      refine aN _ m n ?_
      rcases ak a with⟨u,a⟩|⟨u,a⟩
      ·refine aB rfl u (aj (aa (vI 1) (ah ?_)))
       obtain rfl:=af a
       obtain rfl:=af h
       obtain rfl:=af e
       exact aC (aL [(vI 1)] ⟨rfl,trivial⟩)
      ·refine aA rfl u (au ?_)
       obtain ⟨P,i,a⟩:=bind_some a
       refine aP [(0,(vL Post.enc b)),(8,(vL Post.enc b)),(9,(vI (b.length:Int))),(10,(vI (c:Int))),(29,(vB P))] [(B,some (.cells 3 (Post.v f)))] ?_ ?_
       ·refine bI (aa (vI (c:Int)) (aa (vB (decide ((c:Int)>0))) ?_))
        rcases ak i with⟨w,i⟩|⟨w,i⟩
        ·refine aD rfl w wz (aH Jl rfl 0 rfl wa (ay 4 0 (.inr (by kernel_rfl)) (λ_ _ ag=>trivial) sz9 ag9 rfl rfl (vS f.Player) rfl wa (aK (vL Post.enc b) wa rfl (aK (vI (c:Int)) wa rfl (aK (vI (w64 ((c:Int)-1))) wa rfl ?_)))))
         obtain ⟨j,M,i⟩:=bind_some i
         refine dR Pm rfl rfl M rfl wa (oJ Jl rfl [.str j.Player,.int .i64 j.X,.int .i64 j.Y] rfl rfl wa (bN sz9 ag9 rfl (vS j.Player) rfl wa (aK (vB (sLe f.Player j.Player)) wa rfl (aa (vB (sLe f.Player j.Player)) (aa (vB (sLe f.Player j.Player)) (ah ?_))))))
         obtain rfl:=af i
         exact cu
        ·refine aD rfl w wz (ae (ae (ae (ae (ae (ae (ae (ae (ae (aa (vB false) (aa (vB false) (ah ?_))))))))))))
         obtain rfl:=af i
         exact cu
       ·rintro ⟨⟩ _ G C m n
        refine aN _ m n ?_
        rcases ak a with⟨y,a⟩|⟨y,a⟩
        ·refine aB rfl y (aj (aa (vI 7) (ah ?_)))
         obtain rfl:=af a
         obtain rfl:=af h
         obtain rfl:=af e
         exact aC (aL [(vI 7)] ⟨rfl,trivial⟩)
        ·refine aA rfl y (ax (av (dX (bD l H) wz rfl (aa (vI ((c+1:Nat):Int)) (ah ?_)))))
         obtain rfl:=af a
         exact aU (c+1,A,()) ⟨h,aQ l⟩ (ls_ _) rfl (aI rfl)
  ·rintro o I G C m n
   subst I
   refine aN _ m n (aj (aa (vI 0) (ah ?_)))
   obtain rfl:=af e
   exact aC (aL [(vI 0)] ⟨rfl,trivial⟩)
theorem BD {d:(List Alert)} {e:(List Post)} {r:Int} (a:lW d e=some r) :
  FnM Tryz.prog 73 [(vL Alert.enc d),(vL Post.enc e)] [] (vI r) []:=by
 refine FnM.of_wH ⟨Tryz.prog,13,[],[]⟩ rfl Tryz.func73 rfl rfl (lb_ rfl) (by kernel_rfl) ?_
 unfold lW at a
 refine aj (aa (vI 0) (ah (au (aj (aa (vL Alert.enc d) ?_)))))
 obtain ⟨b,g,a⟩:=bind_some a
 refine aF (zO g) rfl hb105 rfl rfl rfl rfl wz (aa (vI b) (ah (aj (aa (vI b) (aa (vB (b != 0)) (ah ?_))))))
 rcases ak a with⟨c,a⟩|⟨c,a⟩
 ·refine aB rfl c (aj (aa (vI b) (aa (vI b) (ah ?_))))
  obtain rfl:=af a
  exact aC (aL [(vI b)] ⟨rfl,trivial⟩)
 ·refine aA rfl c (ax (aj (aa (vL Post.enc e) ?_)))
  obtain ⟨f,h,a⟩:=bind_some a
  refine aF (Av h) rfl hb106 rfl rfl rfl rfl wz (aa (vI f) (ah ?_))
  obtain rfl:=af a
  exact aC (aL [(vI f)] ⟨rfl,trivial⟩)
theorem Bc {a:Rect} {b:Post} {r:Bool} (e:sO a b=some r) :
  FnM Tryz.prog 108 [(.d (.agg (Rect.enc a))),(.ref (aG 0) 0 0)] [(.cells 3 (Post.v b))] (vB r) [some (.cells 3 (Post.v b))]:=by
 refine FnM.of_wH ⟨Tryz.prog,36,[],[]⟩ rfl Tryz.func108 rfl rfl (lb_ rfl) (by kernel_rfl) ?_
 unfold sO at e
 refine aj (dQ 0 (.inl rfl) (Rect.v a) rfl rfl wz (λl=>aa (vB false) (ah (au ?_))))
 obtain ⟨i,c,e⟩:=bind_some e
 refine aP [(3,(vB i))] [((aG 0),some (.cells 3 (Post.v b))),(l,some (.cells 4 (Rect.v a)))] ?_ ?_
 ·refine av (aH Dv rfl 0 rfl wz (ay 0 1 il ft sz3 ag3 rfl rfl (vI a.X) rfl wz (aH Jz rfl 1 rfl wz (ay 0 0 il ft sz3 ag3 rfl rfl (vI b.X) rfl wz (aa (vB (decide (a.X<=b.X))) ?_)))))
  rcases ak c with⟨f,c⟩|⟨f,c⟩
  ·refine aD rfl f wz (aH Jz rfl 1 rfl wa (ay 0 0 il ft sz3 ag3 rfl rfl (vI b.X) rfl wa (aH Dv rfl 0 rfl wa (ay 0 1 il ft sz3 ag3 rfl rfl (vI a.X) rfl wa (aH JY rfl 2 rfl wa (ay 0 1 il ft sz3 ag3 rfl rfl (vI a.W) rfl wa (aK (vI (w64 (a.X+a.W))) wa rfl (aK (vB (decide (b.X<(w64 (a.X+a.W))))) wa rfl (aa (vB (decide (b.X<(w64 (a.X+a.W))))) ?_)))))))))
   rcases ak c with⟨g,c⟩|⟨g,c⟩
   ·refine aD rfl g wz (aH ze rfl 1 rfl wa (ay 0 1 il ft sz3 ag3 rfl rfl (vI a.Y) rfl wa (aH JE rfl 2 rfl wa (ay 0 0 il ft sz3 ag3 rfl rfl (vI b.Y) rfl wa (aK (vB (decide (a.Y<=b.Y))) wa rfl (aa (vB (decide (a.Y<=b.Y))) ?_))))))
    rcases ak c with⟨h,c⟩|⟨h,c⟩
    ·refine aD rfl h wz (aH JE rfl 2 rfl wa (ay 0 0 il ft sz3 ag3 rfl rfl (vI b.Y) rfl wa (aH ze rfl 1 rfl wa (ay 0 1 il ft sz3 ag3 rfl rfl (vI a.Y) rfl wa (aH Hr rfl 3 rfl wa (ay 0 1 il ft sz3 ag3 rfl rfl (vI a.H) rfl wa (aK (vI (w64 (a.Y+a.H))) wa rfl (aK (vB (decide (b.Y<(w64 (a.Y+a.H))))) wa rfl (aa (vB (decide (b.Y<(w64 (a.Y+a.H))))) (aa (vB (decide (b.Y<(w64 (a.Y+a.H))))) (ah ?_)))))))))))
     obtain rfl:=af c
     exact cu
    ·refine aD rfl h wz (ae (ae (ae (ae (ae (ae (ae (ae (aa (vB false) (aa (vB false) (ah ?_)))))))))))
     obtain rfl:=af c
     exact cu
   ·refine aD rfl g wz (ae (ae (ae (ae (ae (aa (vB false) (aa (vB false) (ae (ae (ae (ae (ae (ae (ae (ae (aa (vB false) (aa (vB false) (ah ?_))))))))))))))))))
    obtain rfl:=af c
    exact cu
  ·refine aD rfl f wz (ae (ae (ae (ae (ae (ae (ae (ae (aa (vB false) (aa (vB false) (ae (ae (ae (ae (ae (aa (vB false) (aa (vB false) (ae (ae (ae (ae (ae (ae ?_)))))))))))))))))))))))
   refine ae (ae (aa (vB false) (aa (vB false) (ah ?_))))
   obtain rfl:=af c
   exact cu
 ·rintro ⟨⟩ _ n m j k
  refine aN _ j k ?_
  obtain rfl:=af e
  exact aC (Ar (.inr rfl) [(vB i)] _ [0] [aG 0] ⟨rfl,trivial⟩ (.cons (kK rfl rfl) (.nil)) (by kernel_rfl) ⟨(by kernel_rfl),trivial⟩ (by decide) (by kernel_rfl))
theorem nL {c:(List Rect)} {j:Rect->Option Bool} {r:Int} {gid:FuncId} {caps:List V} {Sin:List Box} (hfn:∀x0 r,j x0=some r->FnM Tryz.prog gid ([(.d (.agg (Rect.enc x0)))]++caps) Sin (vB r) (Sin.map some)) (hbF:aJ Tryz.prog gid=true) (hcapF:caps.flatMap frz=[]/\caps.map co0=caps) (hokF:okL Sin.length caps=true) (hsF:∀b∈Sin,b.ok Sin.length=true) (hmF:∀b∈Sin,b.mut=true) (h:gN c j=some r) :
  FnM Tryz.prog 143 [(vL Rect.enc c),(.fn gid caps)] Sin (vI r) (Sin.map some):=by
 refine FnM.of_wH ⟨Tryz.prog,19,[],[]⟩ rfl Tryz.func143 rfl rfl (lb_ rfl) (by kernel_rfl) ?_
 unfold gN at h
 refine aj (aa (vI 0) (ah (au (aj (aa (vL Rect.enc c) (bS DL rfl wz (aa (vI 0) (ah ?_))))))))
 obtain ⟨v,m,h⟩:=bind_some h
 obtain ⟨o,m⟩:=aW m
 refine cz (λ(i:Unit)=>[]) (λ(i:Unit)=>(p9 0 Sin)) (λ(a:Nat)=>(λ(i:Unit)=>[(0,(vL Rect.enc c)),(1,(.fn gid caps)),(7,(vI (c.length:Int))),(8,(vI (a:Int)))])) (λk x s=>fI j k x s) v c () m rfl (xB _) ?_ ?_
 ·rintro ⟨a,n,i⟩ ⟨g,f⟩
  dsimp only at g f
  cases n with
  | nil =>
   obtain rfl:=af g
   refine aj (aa (vB (decide ((a:Int)<(c.length:Int)))) (ah ?_))
   refine au (aA rfl (drop_nil f) (aS ?_))
   exact aV (i) rfl rfl (xB _)
  | cons w n =>
   obtain ⟨z,e,g⟩:=bind_some g
   refine aj (aa (vB (decide ((a:Int)<(c.length:Int)))) (ah ?_))
   refine au (aB rfl (bv f) (ax ?_))
   unfold fI at e
   refine au (aM (aj (aa (vI (a:Int)) (aa (vI (a:Int)) (ah (aj (aa (.fn gid caps) (aa (vL Rect.enc c) (aa (vI (a:Int)) (dR Jg rfl rfl (bJ f) rfl wz (bN zt LP rfl (.d (.agg (Rect.enc w))) rfl wz ?_)))))))))))
   obtain ⟨A,u,e⟩:=bind_some e
   refine J7 (hfn _ _ u) rfl hbF rfl rfl hcapF hokF hsF hmF rfl wz rfl (ah ?_)
   rcases ak e with⟨l,e⟩|⟨l,e⟩
   ·refine aB rfl l (aj (aa (vI (a:Int)) (aa (vI (a:Int)) (ah ?_))))
    obtain rfl:=af e
    obtain rfl:=af g
    obtain rfl:=af h
    exact aC (Qz hsF (.inr rfl) [(vI (a:Int))] ⟨rfl,trivial⟩ rfl rfl rfl)
   ·refine aA rfl l (ax (av (dX (bD f o) wz rfl (aa (vI ((a+1:Nat):Int)) (ah ?_)))))
    obtain rfl:=af e
    exact aU (a+1,n,()) ⟨g,aQ f⟩ (ls_ _) rfl (xB _)
 ·rintro i p B y q t
  subst p
  refine aN _ q t (aj (aa (vI (-1)) (ah ?_)))
  obtain rfl:=af h
  exact aC (Qz hsF (.inr rfl) [(vI (-1))] ⟨rfl,trivial⟩ rfl rfl rfl)
theorem mf {e:(List Rect)} {f:Rect->Option Bool} {r:Bool} {gid:FuncId} {caps:List V} {Sin:List Box} (hfn:∀x0 r,f x0=some r->FnM Tryz.prog gid ([(.d (.agg (Rect.enc x0)))]++caps) Sin (vB r) (Sin.map some)) (hbF:aJ Tryz.prog gid=true) (hcapF:caps.flatMap frz=[]/\caps.map co0=caps) (hokF:okL Sin.length caps=true) (hsF:∀b∈Sin,b.ok Sin.length=true) (hmF:∀b∈Sin,b.mut=true) (a:fJ e f=some r) :
  FnM Tryz.prog 107 [(vL Rect.enc e),(.fn gid caps)] Sin (vB r) (Sin.map some):=by
 refine FnM.of_wH ⟨Tryz.prog,9,[],[]⟩ rfl Tryz.func107 rfl rfl (lb_ rfl) (by kernel_rfl) ?_
 unfold fJ at a
 refine aj (aa (vB false) (ah (aj (aa (vL Rect.enc e) (aa (.fn gid caps) ?_)))))
 obtain ⟨c,g,a⟩:=bind_some a
 refine J7 (nL (gid:=gid) (caps:=caps) (Sin:=Sin) hfn hbF hcapF hokF hsF hmF g) rfl hb143 rfl rfl ⟨rfl,rfl⟩ (by simp [okL,okV,hokF]) hsF hmF rfl wz rfl (aa (vB (decide (c>=0))) (aa (vB (decide (c>=0))) (ah ?_)))
 obtain rfl:=af a
 exact aC (Qz hsF (.inr rfl) [(vB (decide (c>=0)))] ⟨rfl,trivial⟩ rfl rfl rfl)
theorem CX {a:Alert} {b:Post} {r:Bool} (c:ru a b=some r) :
  FnM Tryz.prog 74 [(.d (.agg (Alert.enc a))),(.d (.agg (Post.enc b)))] [] (vB r) []:=by
 refine FnM.of_wH ⟨Tryz.prog,9,[],[]⟩ rfl Tryz.func74 rfl rfl (lb_ rfl) (by kernel_rfl) ?_
 unfold ru at c
 refine aj (dQ 0 (.inl rfl) (Alert.v a) rfl rfl wz (λh=>dQ 0 (.inl rfl) (Post.v b) rfl rfl wz (λf=>aa (vB false) (ah (aj (aH Jf rfl 7 rfl wz (ay 0 0 il ft N8 Oy rfl rfl (vL Rect.enc a.Areas) rfl wz (aa (.fn 108 [(.ref f 0 0)]) ?_))))))))
 obtain ⟨e,g,c⟩:=bind_some c
 refine fu 0 [1] il ft (mf (gid:=108) (caps:=[.ref (aG 0) 0 0]) (Sin:=[(.cells 3 (Post.v b))]) (λ_ _ h_=>Bc h_) hb108 ⟨rfl,rfl⟩ (by kernel_rfl) (QP (by kernel_rfl)) (Nl (by kernel_rfl)) g) rfl hb107 rfl (by kernel_rfl) (by kernel_rfl) (by kernel_rfl) (by kernel_rfl) (by kernel_rfl) (by kernel_rfl) (by kernel_rfl) (by decide) (by kernel_rfl) wz (vB e) (by kernel_rfl) ([(h,some (.cells 9 (Alert.v a))),(f,some (.cells 3 (Post.v b)))]:Hp) (by kernel_rfl) (aa (vB e) (ah ?_))
 obtain rfl:=af c
 exact aC (aL [(vB e)] ⟨rfl,trivial⟩)
theorem Du {b:Alert} {c:Post} {r:Bool×Int} (a:oH b c=some r) :
  FnM Tryz.prog 38 [(.d (.agg (Alert.enc b))),(.d (.agg (Post.enc c)))] [] (.tup [(vB r.1),(vI r.2)]) []:=by
 refine FnM.of_wH ⟨Tryz.prog,18,[],[]⟩ rfl Tryz.func38 rfl rfl (lb_ rfl) (by kernel_rfl) ?_
 unfold oH at a
 refine aj (dQ 0 (.inl rfl) (Alert.v b) rfl rfl wz (λj=>dQ 0 (.inl rfl) (Post.v c) rfl rfl wz (λk=>aa (vB false) (aa (vI 0) (ah (au (aj (ay 0 0 il ft Ez Kj rfl rfl (.d (.agg (Alert.enc b))) rfl wz (eP (([b]:List Alert).map Alert.enc) NL ez133 rfl rfl rfl rfl rfl wz (ay 0 1 il ft Nw Qw rfl rfl (.d (.agg (Post.enc c))) rfl wz (eP (([c]:List Post).map Post.enc) Pm ez134 rfl rfl rfl rfl rfl wz ?_)))))))))))
 obtain ⟨e,h,a⟩:=bind_some a
 refine aF (BD h) rfl hb73 rfl rfl rfl rfl wz (aa (vI e) (ah (aj (aa (vI e) (aa (vB (e != 0)) (ah ?_))))))
 rcases ak a with⟨f,a⟩|⟨f,a⟩
 ·refine aB rfl f (aj (aa (vI e) (aa (vB false) (aa (vI e) (ah ?_)))))
  obtain rfl:=af a
  exact aC (aL [(vB false),(vI e)] ⟨rfl,⟨rfl,trivial⟩⟩)
 ·refine aA rfl f (ax (aj (ay 0 0 il ft Ez Kj rfl rfl (.d (.agg (Alert.enc b))) rfl wz (ay 0 1 il ft Nw Qw rfl rfl (.d (.agg (Post.enc c))) rfl wz ?_))))
  obtain ⟨g,i,a⟩:=bind_some a
  refine aF (CX i) rfl hb74 rfl rfl rfl rfl wz (aa (vB g) (aa (vI 0) (ah ?_)))
  obtain rfl:=af a
  exact aC (aL [(vB g),(vI 0)] ⟨rfl,⟨rfl,trivial⟩⟩)
theorem Kl {a:(List Int)} {r:Int} (g:zV a=some r) :
  FnM Tryz.prog 39 [(vL eI a)] [] (vI r) []:=by
 refine FnM.of_wH ⟨Tryz.prog,15,[],[]⟩ rfl Tryz.func39 rfl rfl (lb_ rfl) (by kernel_rfl) ?_
 unfold zV at g
 refine aj (aa (vI 0) (ah (au (aj (aa (vL eI a) (bS un136 rfl wz (aa (vI 0) (ah ?_))))))))
 obtain ⟨q,j,g⟩:=bind_some g
 obtain ⟨m,j⟩:=aW j
 refine cz (λ(h:Unit)=>[]) (λ(h:Unit)=>[]) (λ(f:Nat)=>(λ(h:Unit)=>[(5,(vL eI a)),(6,(vI (a.length:Int))),(7,(vI (f:Int)))])) (λk x s=>xL k x s) q a () j rfl (aI rfl) ?_ ?_
 ·rintro ⟨f,l,h⟩ ⟨d,c⟩
  dsimp only at d c
  cases l with
  | nil =>
   obtain rfl:=af d
   refine aj (aa (vB (decide ((f:Int)<(a.length:Int)))) (ah ?_))
   refine au (aA rfl (drop_nil c) (aS ?_))
   exact aV (h) rfl rfl (aI rfl)
  | cons b l =>
   obtain ⟨u,e,d⟩:=bind_some d
   refine aj (aa (vB (decide ((f:Int)<(a.length:Int)))) (ah ?_))
   refine au (aB rfl (bv c) (ax ?_))
   unfold xL at e
   refine au (aM (aj (dR es136 rfl rfl (bJ c) rfl wz (bN sz32 ag32 rfl (vI b) rfl wz (aa (vI b) (ah (aj (aa (vI b) (aa (vB (b != 0)) (ah ?_))))))))))
   rcases ak e with⟨i,e⟩|⟨i,e⟩
   ·refine aB rfl i (aj (aa (vI b) (aa (vI b) (ah ?_))))
    obtain rfl:=af e
    obtain rfl:=af d
    obtain rfl:=af g
    exact aC (aL [(vI b)] ⟨rfl,trivial⟩)
   ·refine aA rfl i (ax (av (dX (bD c m) wz rfl (aa (vI ((f+1:Nat):Int)) (ah ?_)))))
    obtain rfl:=af e
    exact aU (f+1,l,()) ⟨d,aQ c⟩ (ls_ _) rfl (aI rfl)
 ·rintro h n v t o p
  subst n
  refine aN _ o p (aj (aa (vI 0) (ah ?_)))
  obtain rfl:=af g
  exact aC (aL [(vI 0)] ⟨rfl,trivial⟩)
theorem H8 {r:Bool} (b:qR  = some r) :
  FnM Tryz.prog 16 [] [] (vB r) []:=by
 refine FnM.of_wH ⟨Tryz.prog,75,[],[]⟩ rfl Tryz.func16 rfl rfl (lb_ rfl) (by kernel_rfl) ?_
 unfold qR at b
 refine aj (aa (vB false) (ah (aj (aK (.d (.agg (Rect.enc (⟨0,0,2,2⟩:Rect)))) wz (by kernel_rfl) (aK (.d (.agg (Rect.enc (⟨1,1,2,2⟩:Rect)))) wz (by kernel_rfl) (eP (([(⟨0,0,2,2⟩:Rect),(⟨1,1,2,2⟩:Rect)]:List Rect).map Rect.enc) Jg ez85 rfl rfl rfl rfl rfl wz ?_))))))
 obtain ⟨c,t,b⟩:=bind_some b
 refine aF (Gn t) rfl hb34 rfl rfl rfl rfl wz (aa (.tup [(vI c.1),(vI c.2)]) (aa (vI c.1) (aa (vI c.2) (aa (vI c.1) (aa (vI c.2) (ah (aj (aK (.agg [(vS (⟨#[97]⟩:ByteArray)),(vS (⟨#[98]⟩:ByteArray)),(vI 0),(vI 0),(vI 0),(vI 1),(vI 127),.nil,(vI 1),(vI 2),(vI 0),.nil,(vB false)]) wz (by kernel_rfl) (aK (.d (.agg (Window.enc (⟨0,86400000⟩:Window)))) wz (by kernel_rfl) ?_)))))))))
 obtain ⟨e,u,b⟩:=bind_some b
 refine aF (Co u) rfl hb35 rfl rfl rfl rfl wz (aa (.tup [(vL Window.enc e.1),(vI e.2)]) (aa (vL Window.enc e.1) (aa (vI e.2) (aa (vL Window.enc e.1) (aa (vI e.2) (ah (aj (aK (.d (.agg (Window.enc (⟨0,100⟩:Window)))) wz (by kernel_rfl) (aK (.agg [(vS (⟨#[97]⟩:ByteArray)),(vS (⟨#[]⟩:ByteArray)),(vI 0),(vI 100),.nil,(vI 10),(vI 0),(vI 0)]) wz (by kernel_rfl) ?_)))))))))
 obtain ⟨f,v,b⟩:=bind_some b
 refine aF (FP v) rfl hb36 rfl rfl rfl rfl wz (aa (.tup [(vI f.1),(vI f.2)]) (aa (vI f.1) (aa (vI f.2) (aa (vI f.1) (aa (vI f.2) (ah (aj (aK (.d (.agg (Beat.enc (⟨(⟨#[112]⟩:ByteArray),0,100⟩:Beat)))) wz (by kernel_rfl) (aK (.d (.agg (Beat.enc (⟨(⟨#[112]⟩:ByteArray),1000,1300⟩:Beat)))) wz (by kernel_rfl) (eP (([(⟨(⟨#[112]⟩:ByteArray),0,100⟩:Beat),(⟨(⟨#[112]⟩:ByteArray),1000,1300⟩:Beat)]:List Beat).map Beat.enc) OW ez95 rfl rfl rfl rfl rfl wz ?_))))))))))
 obtain ⟨g,w,b⟩:=bind_some b
 refine aF (GH w) rfl hb37 rfl rfl rfl rfl wz (aa (.tup [(vI g.1),(vI g.2)]) (aa (vI g.1) (aa (vI g.2) (aa (vI g.1) (aa (vI g.2) (ah (aN (H0:=([]:Hp)) ([(1,(vI c.1)),(2,(vI c.2)),(3,(vL Window.enc e.1)),(4,(vI e.2)),(5,(vI f.1)),(6,(vI f.2)),(7,(vI g.1)),(8,(vI g.2))]:SL_) (by kernel_rfl) (wy (by kernel_rfl)) (aj (aK (.d (.agg (Rect.enc (⟨0,0,2,2⟩:Rect)))) wz (by kernel_rfl) (eP (([(⟨0,0,2,2⟩:Rect)]:List Rect).map Rect.enc) Jg ez85 rfl rfl rfl rfl rfl wz (aK (.agg [(vS (⟨#[97]⟩:ByteArray)),(vS (⟨#[115]⟩:ByteArray)),(vI 1),.nil,(vI 0),(vI 5),(vI 1),(vL Rect.enc ([(⟨0,0,2,2⟩:Rect)]:List Rect)),(vS (⟨#[120]⟩:ByteArray))]) wz (by kernel_rfl) (bZ 0 (.inl rfl) z97 rfl wz (λx=>dY 0 il ft 0 Ez rfl rfl [(vS (⟨#[97]⟩:ByteArray)),(vS (⟨#[115]⟩:ByteArray)),(vI 1),.nil,(vI 0),(vI 5),(vI 1),(vL Rect.enc ([(⟨0,0,2,2⟩:Rect)]:List Rect)),(vS (⟨#[120]⟩:ByteArray))] rfl wz (ah (aj (ay 0 0 il ft Ez Kj rfl rfl (.agg [(vS (⟨#[97]⟩:ByteArray)),(vS (⟨#[115]⟩:ByteArray)),(vI 1),.nil,(vI 0),(vI 5),(vI 1),(vL Rect.enc ([(⟨0,0,2,2⟩:Rect)]:List Rect)),(vS (⟨#[120]⟩:ByteArray))]) rfl wz (aK (.d (.agg (Post.enc (⟨(⟨#[112]⟩:ByteArray),1,1⟩:Post)))) wz (by kernel_rfl) ?_)))))))))))))))))
 obtain ⟨h,q,b⟩:=bind_some b
 refine aF (Du q) rfl hb38 rfl rfl rfl rfl wz (aa (.tup [(vB h.1),(vI h.2)]) (aa (vB h.1) (aa (vI h.2) (aa (vB h.1) (aa (vI h.2) (ah (au ?_)))))))
 obtain ⟨n,a,b⟩:=bind_some b
 refine aP [(0,(vB n))] [(x,some (.cells 9 [(vS (⟨#[97]⟩:ByteArray)),(vS (⟨#[115]⟩:ByteArray)),(vI 1),.nil,(vI 0),(vI 5),(vI 1),(vL Rect.enc ([(⟨0,0,2,2⟩:Rect)]:List Rect)),(vS (⟨#[120]⟩:ByteArray))]))] ?_ ?_
 ·refine av (aa (vI c.2) (aa (vI e.2) (aa (vI f.2) (aa (vI g.2) (aa (vI h.2) (eP (([c.2,e.2,f.2,g.2,h.2]:List Int).map eI) es136 ez136 rfl rfl rfl rfl rfl wz ?_))))))
  obtain ⟨y,s,a⟩:=bind_some a
  refine aF (Kl s) rfl hb39 rfl rfl rfl rfl wz (aa (vB (y==0)) ?_)
  rcases ak a with⟨i,a⟩|⟨i,a⟩
  ·refine aD rfl i wz (aK (vI c.1) wa rfl (aK (vB (c.1==7)) wa rfl (aa (vB (c.1==7)) ?_)))
   rcases ak a with⟨j,a⟩|⟨j,a⟩
   ·refine aD rfl j wz (aK (vL Window.enc e.1) wa rfl (bS un86 rfl wa (aK (vB ((e.1.length:Int)==1)) wa rfl (aa (vB ((e.1.length:Int)==1)) ?_))))
    rcases ak a with⟨k,a⟩|⟨k,a⟩
    ·refine aD rfl k wz (aK (vI f.1) wa rfl (aK (vB (f.1==5)) wa rfl (aa (vB (f.1==5)) ?_)))
     rcases ak a with⟨l,a⟩|⟨l,a⟩
     ·refine aD rfl l wz (aK (vI g.1) wa rfl (aK (vB (g.1==500)) wa rfl (aa (vB (g.1==500)) ?_)))
      rcases ak a with⟨m,a⟩|⟨m,a⟩
      ·refine aD rfl m wz (aK (vB h.1) wa rfl (aa (vB h.1) (aa (vB h.1) (ah ?_))))
       obtain rfl:=af a
       exact cu
      ·refine aD rfl m wz (ae (aa (vB false) (aa (vB false) (ah ?_))))
       obtain rfl:=af a
       exact cu
     ·refine aD rfl l wz (ae (ae (aa (vB false) (aa (vB false) (ae (aa (vB false) (aa (vB false) (ah ?_))))))))
      obtain rfl:=af a
      exact cu
    ·refine aD rfl k wz (ae (ae (aa (vB false) (aa (vB false) (ae (ae (aa (vB false) (aa (vB false) (ae (aa (vB false) (aa (vB false) (ah ?_))))))))))))
     obtain rfl:=af a
     exact cu
   ·refine aD rfl j wz (ae (ae (ae (aa (vB false) (aa (vB false) (ae (ae (aa (vB false) (aa (vB false) (ae (ae (aa (vB false) (aa (vB false) (ae (aa (vB false) (aa (vB false) (ah ?_)))))))))))))))))
    obtain rfl:=af a
    exact cu
  ·refine aD rfl i wz (ae (ae (aa (vB false) (aa (vB false) (ae (ae (ae (aa (vB false) (aa (vB false) (ae (ae (aa (vB false) (aa (vB false) (ae (ae (aa (vB false) (aa (vB false) (ae (aa (vB false) (aa (vB false) (ah ?_)))))))))))))))))))))
   obtain rfl:=af a
   exact cu
 ·rintro ⟨⟩ _ A z o p
  refine aN _ o p ?_
  obtain rfl:=af b
  exact aC (aL [(vB n)] ⟨rfl,trivial⟩)
theorem yL {q:(List Int)} {r:Bool} (b:lv q=some r) :
  FnM Tryz.prog 3 [(vL eI q)] [] (vB r) []:=by
 refine FnM.of_wH ⟨Tryz.prog,85,[],[]⟩ rfl Tryz.func3 rfl rfl (lb_ rfl) (by kernel_rfl) ?_
 unfold lv at b
 refine aj (aa (vB false) (ah (aj (aa (vL eI q) (aK (.d (.agg (Stream.enc (⟨q,0⟩:Stream)))) wz (by kernel_rfl) (dQ 0 (.inl rfl) [(vL eI q),(vI 0)] rfl rfl wz (λh=>aa (vL eI q) (aK (.d (.agg (Stream.enc (⟨q,0⟩:Stream)))) wz (by kernel_rfl) (dQ 0 (.inl rfl) [(vL eI q),(vI 0)] rfl rfl wz (λi=>aa (.ref h 0 0) (aa (.ref i 0 0) (ah (aj (aa (.ref h 0 0) ?_))))))))))))))
 obtain ⟨o,Ç,b⟩:=bind_some b
 refine fu 0 [0] il ft (nW Ç) rfl hb4 rfl (by kernel_rfl) (by kernel_rfl) (by kernel_rfl) (by kernel_rfl) (by kernel_rfl) (by kernel_rfl) (by kernel_rfl) (by decide) (by kernel_rfl) wz (vL Entry.enc o.1) (by kernel_rfl) ([(h,some (.cells 2 [(vL eI o.2.L),(vI o.2.f_at)])),(i,some (.cells 2 [(vL eI q),(vI 0)]))]:Hp) (by kernel_rfl) (aa (.ref h 0 0) ?_)
 obtain ⟨a,Í,b⟩:=bind_some b
 refine fu 0 [0] il ft (oF Í) rfl hb5 rfl (by kernel_rfl) (by kernel_rfl) (by kernel_rfl) (by kernel_rfl) (by kernel_rfl) (by kernel_rfl) (by kernel_rfl) (by decide) (by kernel_rfl) wz (.d (.agg (Player.enc a.1))) (by kernel_rfl) ([(h,some (.cells 2 [(vL eI a.2.L),(vI a.2.f_at)])),(i,some (.cells 2 [(vL eI q),(vI 0)]))]:Hp) (by kernel_rfl) (bZ 0 (.inl rfl) z30 rfl wz (λl=>aa (vL Entry.enc o.1) (dY 0 il ft 2 yM rfl rfl (Player.v a.1) rfl wz (ah (aj (aa (.ref i 0 0) ?_))))))
 obtain ⟨u,Z,b⟩:=bind_some b
 refine fu 0 [1] il ft (nW Z) rfl hb4 rfl (by kernel_rfl) (by kernel_rfl) (by kernel_rfl) (by kernel_rfl) (by kernel_rfl) (by kernel_rfl) (by kernel_rfl) (by decide) (by kernel_rfl) wz (vL Entry.enc u.1) (by kernel_rfl) ([(h,some (.cells 2 [(vL eI a.2.L),(vI a.2.f_at)])),(i,some (.cells 2 [(vL eI u.2.L),(vI u.2.f_at)])),(l,some (.cells 4 (Player.v a.1)))]:Hp) (by kernel_rfl) (aa (.ref i 0 0) ?_)
 obtain ⟨c,À,b⟩:=bind_some b
 refine fu 0 [1] il ft (oF À) rfl hb5 rfl (by kernel_rfl) (by kernel_rfl) (by kernel_rfl) (by kernel_rfl) (by kernel_rfl) (by kernel_rfl) (by kernel_rfl) (by decide) (by kernel_rfl) wz (.d (.agg (Player.enc c.1))) (by kernel_rfl) ([(h,some (.cells 2 [(vL eI a.2.L),(vI a.2.f_at)])),(i,some (.cells 2 [(vL eI c.2.L),(vI c.2.f_at)])),(l,some (.cells 4 (Player.v a.1)))]:Hp) (by kernel_rfl) (bZ 0 (.inl rfl) z30 rfl wz (λm=>aa (vL Entry.enc u.1) (dY 0 il ft 3 yM rfl rfl (Player.v c.1) rfl wz (ah (aj (aa (vL Entry.enc o.1) ?_))))))
 obtain ⟨e,Á,b⟩:=bind_some b
 refine Gm [.int .i64 e.2] [] (A8 Á) rfl hb6 rfl (by kernel_rfl) (by kernel_rfl) (by kernel_rfl) (by kernel_rfl) (by kernel_rfl) rfl (by decide) (by kernel_rfl) wz ([(h,some (.cells 2 [(vL eI a.2.L),(vI a.2.f_at)])),(i,some (.cells 2 [(vL eI c.2.L),(vI c.2.f_at)])),(l,some (.cells 4 (Player.v a.1))),(m,some (.cells 4 (Player.v c.1)))]:Hp) (λ_=>by kernel_rfl) (λf=>aa (.tup [(gV f 13 e.1),(vI e.2)]) (aa (gV f 13 e.1) (aa (vI e.2) (aa (gV f 13 e.1) (aa (vI e.2) (ah (aN (H0:=([(h,some (.cells 2 [(vL eI a.2.L),(vI a.2.f_at)])),(i,some (.cells 2 [(vL eI c.2.L),(vI c.2.f_at)])),(l,some (.cells 4 (Player.v a.1))),(m,some (.cells 4 (Player.v c.1))),(f,gB 13 Entry.encW e.1)]:Hp)) ([(5,(vL Entry.enc o.1)),(6,(.ref l 0 0)),(7,(vL Entry.enc u.1)),(8,(.ref m 0 0)),(9,(gV f 13 e.1))]:SL_) (by kernel_rfl) (wy (by kernel_rfl)) (au (aj (aa (gV f 13 e.1) (BC Cv rfl wz (aa (vI 0) (ah ?_)))))))))))))
 obtain ⟨Ð,J,b⟩:=bind_some b
 obtain ⟨X,J⟩:=aW J
 refine cz (λ(G:Unit)=>[(5,(vL Entry.enc o.1)),(6,(.ref l 0 0)),(7,(vL Entry.enc u.1)),(8,(.ref m 0 0)),(9,(gV f 13 e.1))]) (λ(G:Unit)=>[(h,some (.cells 2 [(vL eI a.2.L),(vI a.2.f_at)])),(i,some (.cells 2 [(vL eI c.2.L),(vI c.2.f_at)])),(l,some (.cells 4 (Player.v a.1))),(m,some (.cells 4 (Player.v c.1))),(f,gB 13 Entry.encW e.1)]) (λ(p:Nat)=>(λ(G:Unit)=>[(5,(vL Entry.enc o.1)),(6,(.ref l 0 0)),(7,(vL Entry.enc u.1)),(8,(.ref m 0 0)),(9,(gV f 13 e.1)),(36,(vI (e.1.length:Int))),(37,(vI (p:Int)))])) (λk x s=>gy e k x s) Ð (List.range ((e.1.length:Int)).toNat) () J rfl (aI rfl) ?_ ?_
 ·rintro ⟨p,N,G⟩ ⟨E,C⟩
  dsimp only at E C
  cases N with
  | nil =>
   obtain rfl:=af E
   refine aj (aa (vB (decide ((p:Int)<(e.1.length:Int)))) (ah ?_))
   refine au (aA rfl (nO C) (aS ?_))
   exact aV (G) rfl rfl (aI rfl)
  | cons Ù N =>
   obtain ⟨Ó,j,E⟩:=bind_some E
   refine aj (aa (vB (decide ((p:Int)<(e.1.length:Int)))) (ah ?_))
   refine au (aB rfl (lu C) (ax ?_))
   unfold gy at j
   refine au (aM (aj (aa (vI (p:Int)) (aa (vI (p:Int)) (ah (aj (aa (gV f 13 e.1) (aa (vI (p:Int)) ?_))))))))
   obtain ⟨_,O,j⟩:=bind_some j
   refine uw yX rfl rfl (jM O) (gK O) wz (aH mI rfl 11 rfl wz ?_)
   obtain ⟨U,Î,j⟩:=bind_some j
   refine nI 0 4 il ft tV xn rfl rfl Î (.d (.wild 1 U.Tags.length)) rfl wz ?_
   obtain ⟨Ô,Â,j⟩:=bind_some j
   refine aF (wN Â) rfl hb7 rfl rfl rfl rfl wz (ah (av (aa (gV f 13 e.1) (aa (vI (p:Int)) ?_))))
   obtain ⟨_,P,j⟩:=bind_some j
   refine uw yX rfl rfl (jM P) (gK P) wz (aH pU rfl 7 rfl wz ?_)
   obtain ⟨W,Ï,j⟩:=bind_some j
   refine nI 0 4 il ft sF xE rfl rfl Ï (.d (.wild 1 W.Except.length)) rfl wz ?_
   obtain ⟨Õ,Ã,j⟩:=bind_some j
   refine aF (zH Ã) rfl hb8 rfl rfl rfl rfl wz (ah (av (dX (nR C X) wz rfl (aa (vI ((p+1:Nat):Int)) (ah ?_)))))
   obtain rfl:=af j
   exact aU (p+1,N,()) ⟨E,aQ C⟩ (ls_ _) rfl (aI rfl)
 ·rintro G Y Ò T K M
  subst Y
  refine aN _ K M (aj (aa (gV f 13 e.1) (h_ghost (λhw=>OY 53 4 rfl rfl hw) (by kernel_rfl) ?_)))
  obtain ⟨Ö,Ä,b⟩:=bind_some b
  refine aF (uC Ä) rfl hb9 rfl rfl rfl rfl wz (ah (aj (aa (vL Entry.enc o.1) (ay 0 2 il ft yM Bg rfl rfl (.d (.agg (Player.enc a.1))) rfl wz ?_))))
  obtain ⟨w,Å,b⟩:=bind_some b
  refine Gm [.int .i64 w.2] [] (Dc Å) rfl hb10 rfl (by kernel_rfl) (by kernel_rfl) (by kernel_rfl) (by kernel_rfl) (by kernel_rfl) rfl (by decide) (by kernel_rfl) wz ([(h,some (.cells 2 [(vL eI a.2.L),(vI a.2.f_at)])),(i,some (.cells 2 [(vL eI c.2.L),(vI c.2.f_at)])),(l,some (.cells 4 (Player.v a.1))),(m,some (.cells 4 (Player.v c.1))),(f,none)]:Hp) (λ_=>by kernel_rfl) (λn=>aa (.tup [(gV n 1 w.1),(vI w.2)]) (aa (gV n 1 w.1) (aa (vI w.2) (aa (gV n 1 w.1) (aa (vI w.2) (ah (aj (aa (gV n 1 w.1) ?_))))))))
  obtain ⟨z,Æ,b⟩:=bind_some b
  obtain ⟨_,A,b⟩:=bind_some b
  replace A:=qo A
  refine oN 0 [] 5 0 il ft (wP Æ) rfl hb7 rfl rfl rfl (by kernel_rfl) rfl (.inl rfl) rfl (by kernel_rfl) (by kernel_rfl) (by kernel_rfl) (by kernel_rfl) rfl (by decide) (by kernel_rfl) rC (Ay A) wz ([(h,some (.cells 2 [(vL eI a.2.L),(vI a.2.f_at)])),(i,some (.cells 2 [(vL eI c.2.L),(vI c.2.f_at)])),(l,some (.cells 4 (Player.v a.1))),(m,some (.cells 4 (Player.v c.1))),(f,none),(n,gB 1 eS z)]:Hp) (by kernel_rfl) (eU (v':=(gV n 1 z)) 12 rfl (ja A.symm) (eU (v':=(gV n 1 z)) 59 rfl (ja A.symm) (eU (v':=(gV n 1 z)) 61 rfl (ja A.symm) (ah (aj (aa (vL Entry.enc o.1) (ay 0 2 il ft yM Bg rfl rfl (.d (.agg (Player.enc a.1))) rfl wz (aK (.d (.agg (Window.enc (⟨0,86400000⟩:Window)))) wz (by kernel_rfl) ?_))))))))
  obtain ⟨y,È,b⟩:=bind_some b
  refine Gm [.int .i64 y.2] [] (zq È) rfl hb11 rfl (by kernel_rfl) (by kernel_rfl) (by kernel_rfl) (by kernel_rfl) (by kernel_rfl) rfl (by decide) (by kernel_rfl) wz ([(h,some (.cells 2 [(vL eI a.2.L),(vI a.2.f_at)])),(i,some (.cells 2 [(vL eI c.2.L),(vI c.2.f_at)])),(l,some (.cells 4 (Player.v a.1))),(m,some (.cells 4 (Player.v c.1))),(f,none),(n,gB 1 eS z)]:Hp) (λ_=>by kernel_rfl) (λt=>aa (.tup [(gV t 3 y.1),(vI y.2)]) (aa (gV t 3 y.1) (aa (vI y.2) (aa (gV t 3 y.1) (aa (vI y.2) (ah (aj (aa (gV t 3 y.1) ?_))))))))
  obtain ⟨F,É,b⟩:=bind_some b
  obtain ⟨_,B,b⟩:=bind_some b
  replace B:=qo B
  refine oN 0 [] 6 0 il ft (vg É) rfl hb12 rfl rfl rfl (by kernel_rfl) rfl (.inl rfl) rfl (by kernel_rfl) (by kernel_rfl) (by kernel_rfl) (by kernel_rfl) rfl (by decide) (by kernel_rfl) rC (Ay B) wz ([(h,some (.cells 2 [(vL eI a.2.L),(vI a.2.f_at)])),(i,some (.cells 2 [(vL eI c.2.L),(vI c.2.f_at)])),(l,some (.cells 4 (Player.v a.1))),(m,some (.cells 4 (Player.v c.1))),(f,none),(n,gB 1 eS z),(t,gB 3 Slot_.enc F)]:Hp) (by kernel_rfl) (eU (v':=(gV t 3 F)) 14 rfl (ja B.symm) (eU (v':=(gV t 3 F)) 68 rfl (ja B.symm) (eU (v':=(gV t 3 F)) 70 rfl (ja B.symm) (ah (au ?_)))))
  obtain ⟨R,g,b⟩:=bind_some b
  refine aP [(2,(vB R))] [(h,some (.cells 2 [(vL eI a.2.L),(vI a.2.f_at)])),(i,some (.cells 2 [(vL eI c.2.L),(vI c.2.f_at)])),(l,some (.cells 4 (Player.v a.1))),(m,some (.cells 4 (Player.v c.1))),(f,none),(n,gB 1 eS z),(t,gB 3 Slot_.enc F)] ?_ ?_
  ·refine av (aa (vL Entry.enc o.1) (aa (vL Entry.enc u.1) ?_))
   obtain ⟨Ø,Ê,g⟩:=bind_some g
   refine aF (ig Ê) rfl hb13 rfl rfl rfl rfl wz ?_
   rcases ak g with⟨H,g⟩|⟨H,g⟩
   ·refine aD rfl H wz (aH JK rfl 3 rfl wa (ay 0 2 il ft tV xn rfl rfl (vL eS a.1.Tags) rfl wa (aH JK rfl 3 rfl wa (ay 0 3 il ft tV xn rfl rfl (vL eS c.1.Tags) rfl wa ?_))))
    obtain ⟨Ñ,Ë,g⟩:=bind_some g
    refine aF (jc Ë) rfl hb15 rfl rfl rfl rfl wa (aa (vB Ñ) ?_)
    rcases ak g with⟨I,g⟩|⟨I,g⟩
    ·refine aD rfl I wz ?_
     obtain ⟨Q,Ì,g⟩:=bind_some g
     refine aF (H8 Ì) rfl hb16 rfl rfl rfl rfl wa (aa (vB Q) (aa (vB Q) (ah ?_)))
     obtain rfl:=af g
     exact cu
    ·refine aD rfl I wz (ae (aa (vB false) (aa (vB false) (ah ?_))))
     obtain rfl:=af g
     exact cu
   ·refine aD rfl H wz (ae (ae (ae (ae (ae (aa (vB false) (aa (vB false) (ae (aa (vB false) (aa (vB false) (ah ?_)))))))))))
    obtain rfl:=af g
    exact cu
  ·rintro ⟨⟩ _ Ò T K M
   refine aN _ K M ?_
   obtain rfl:=af b
   exact aC (aL [(vB R)] ⟨rfl,trivial⟩)
end Go.Proofs.YtadpbmfnnlkdlabGreatDoor.Law

