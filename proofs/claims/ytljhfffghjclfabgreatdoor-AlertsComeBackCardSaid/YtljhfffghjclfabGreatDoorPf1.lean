/-
 The machine computes these plain functions (written by a program of ours).
-/
import Derived.Test.YtljhfffghjclfabGreatDoorFacts
import Derived.Test.YtljhfffghjclfabGreatDoorDefs
import Derived.Test.YtljhfffghjclfabGreatDoorShelf
open Go Go.Eng Go.Proofs
namespace Go.Proofs.YtljhfffghjclfabGreatDoor.Law
set_option maxRecDepth 100000
set_option linter.unusedVariables false
set_option maxHeartbeats 1000000
theorem xg {h:Int} {b:Int} {r:Int} (a:sP h b=some r) :
  FnM Tryz.prog 62 [(vI h),(vI b)] [] (vI r) []:=by
 refine FnM.of_wH ⟨Tryz.prog,16,[],[]⟩ rfl Tryz.func62 rfl rfl (lb_ rfl) (by kernel_rfl) ?_
 unfold sP at a
 refine ai (aa (vI 0) (af (ak (ai (aa (vI b) (aa (vB (decide (b<1))) (af ?_)))))))
 rcases aj a with⟨f,a⟩|⟨f,a⟩
 ·refine aB rfl f (ai (aa (vI 0) (af ?_)))
  obtain rfl:=ae a
  exact ay (aK [(vI 0)] ⟨rfl,trivial⟩)
 ·refine aA rfl f (ax (ai (aa (vI h) (aa (vI b) ?_))))
  obtain ⟨c,k,a⟩:=bind_some a
  refine PX rfl rfl k wz (aa (vI c) (af (ak (ai (aa (vI c) (aa (vB (decide (c<0))) (af ?_)))))))
  obtain ⟨e,d,a⟩:=bind_some a
  refine aP [(0,(vI e))] [] ?_ ?_
  ·rcases aj d with⟨g,d⟩|⟨g,d⟩
   ·refine aB rfl g (av (aa (vI c) (aa (vI b) (aa (vI (w64 (c+b))) (aa (vI (w64 (c+b))) (af ?_))))))
    obtain rfl:=ae d
    exact cu
   ·refine aA rfl g (ax ?_)
    obtain rfl:=ae d
    exact cu
  ·rintro ⟨⟩ _ m l i j
   refine aN _ i j (ai (aa (vI e) (aa (vI e) (af ?_))))
   obtain rfl:=ae a
   exact ay (aK [(vI e)] ⟨rfl,trivial⟩)
theorem fZ {a:Stream} {d:Int} {r:Int×Stream} (b:eB a d=some r) :
  FnM Tryz.prog 34 [(.ref (au 0) 0 0),(vI d)] [(.cells 2 [(vL eI a.L),(vI a.f_at)])] (vI r.1) [some (.cells 2 [(vL eI r.2.L),(vI r.2.f_at)])]:=by
 refine FnM.of_wH ⟨Tryz.prog,64,[],[]⟩ rfl Tryz.func34 rfl rfl (lb_ rfl) (by kernel_rfl) ?_
 unfold eB at b
 refine ai (aa (vI 0) (af (ai (aa (.ref (au 0) 0 0) (aa (.ref (au 0) 0 0) (aG Ga rfl 1 rfl wz (aF 0 0 il ft sz3 ag3 rfl rfl (vI a.f_at) rfl wz (aa (vI (w64 (a.f_at+1))) (aa (.ref (au 0) 0 0) (aG Ga rfl 1 rfl wz (gy 0 il ft 0 sz3 rfl rfl [(vL eI a.L),(vI (w64 (a.f_at+1)))] rfl wz (af (ak (ai (aa (.ref (au 0) 0 0) (aa (.ref (au 0) 0 0) (aG JE rfl 0 rfl wz (aF 0 0 il ft PD Pz rfl rfl (vL eI a.L) rfl wz (bL wW rfl wz (aa (vB ((a.L.length:Int)==0)) (af ?_)))))))))))))))))))))
 rcases aj b with⟨f,b⟩|⟨f,b⟩
 ·refine aB rfl f (ai (aa (.ref (au 0) 0 0) (aa (.ref (au 0) 0 0) (aG Ga rfl 1 rfl wz (aF 0 0 il ft sz3 ag3 rfl rfl (vI (w64 (a.f_at+1))) rfl wz (aa (vI (w64 ((w64 (a.f_at+1))*7919))) (aa (vI d) ?_)))))))
  obtain ⟨h,k,b⟩:=bind_some b
  refine aD (xg k) rfl hb62 rfl rfl rfl rfl wz (aa (vI h) (af ?_))
  obtain rfl:=ae b
  exact ay (Ad (.inr rfl) [(vI h)] _ [0] [au 0] ⟨rfl,trivial⟩ (.cons (jl rfl rfl) (.nil)) (by kernel_rfl) ⟨(by kernel_rfl),trivial⟩ (by decide) (by kernel_rfl))
 ·refine aA rfl f (ax (ak (bD (aa (.ref (au 0) 0 0) (aa (.ref (au 0) 0 0) (aG Ga rfl 1 rfl wz (aF 3 0 (.inr (by kernel_rfl)) (λ_ _ ag=>trivial) sz3 ag3 rfl rfl (vI (w64 (a.f_at+1))) rfl wz (aa (vI (w64 ((w64 (a.f_at+1))-1))) (aa (.ref (au 0) 0 0) (aa (.ref (au 0) 0 0) (aG JE rfl 0 rfl wz (aF 8 0 (.inr (by kernel_rfl)) (λ_ _ ag=>⟨.inl ⟨rfl,rfl⟩,trivial⟩) PD Pz rfl rfl (vL eI a.L) rfl wz (bL wW rfl wz ?_)))))))))))))
  obtain ⟨c,m,b⟩:=bind_some b
  refine PX rfl rfl m wz (aa (vI c) (af (ak (bD (aa (.ref (au 0) 0 0) (aa (.ref (au 0) 0 0) (aG Ga rfl 1 rfl wz (aF 3 0 (.inr (by kernel_rfl)) (λ_ _ ag=>trivial) sz3 ag3 rfl rfl (vI (w64 (a.f_at+1))) rfl wz (aa (vI (w64 ((w64 (a.f_at+1))-1))) (aa (.ref (au 0) 0 0) (aa (.ref (au 0) 0 0) (aG JE rfl 0 rfl wz (aF 8 0 (.inr (by kernel_rfl)) (λ_ _ ag=>⟨.inl ⟨rfl,rfl⟩,trivial⟩) PD Pz rfl rfl (vL eI a.L) rfl wz (bL wW rfl wz ?_))))))))))))))
  obtain ⟨e,n,b⟩:=bind_some b
  refine QG rfl rfl n wz (aa (vI e) (af (aN (H0:=([((au 0),some (.cells 2 [(vL eI a.L),(vI (w64 (a.f_at+1)))]))]:Hp)) ([(0,(.ref (au 0) 0 0)),(1,(vI d)),(5,(vI c)),(6,(vI e))]:SL_) (by kernel_rfl) (ul (by kernel_rfl)) (ai (aa (.ref (au 0) 0 0) (aa (.ref (au 0) 0 0) (aG JE rfl 0 rfl wz (aF 0 0 il ft PD Pz rfl rfl (vL eI a.L) rfl wz (aa (vI c) ?_)))))))))
  obtain ⟨p,l,b⟩:=bind_some b
  refine dC lG rfl rfl l rfl wz (bC sz3 ag3 rfl (vI p) rfl wz ?_)
  obtain ⟨o,i,b⟩:=bind_some b
  refine aD (xg i) rfl hb62 rfl rfl rfl rfl wz (aa (vI e) (aa (vI c) (aa (vI (w64 (7919+c))) (aa (vI (w64 (e*(w64 (7919+c))))) (aa (vI (w64 (o+(w64 (e*(w64 (7919+c))))))) (aa (vI d) ?_))))))
  obtain ⟨g,j,b⟩:=bind_some b
  refine aD (xg j) rfl hb62 rfl rfl rfl rfl wz (aa (vI g) (af ?_))
  obtain rfl:=ae b
  exact ay (Ad (.inr rfl) [(vI g)] _ [0] [au 0] ⟨rfl,trivial⟩ (.cons (jl rfl rfl) (.nil)) (by kernel_rfl) ⟨(by kernel_rfl),trivial⟩ (by decide) (by kernel_rfl))
theorem fJ {f:Stream} {a:Int} {c:Int} {r:Int×Stream} (b:dG f a c=some r) :
  FnM Tryz.prog 11 [(.ref (au 0) 0 0),(vI a),(vI c)] [(.cells 2 [(vL eI f.L),(vI f.f_at)])] (vI r.1) [some (.cells 2 [(vL eI r.2.L),(vI r.2.f_at)])]:=by
 refine FnM.of_wH ⟨Tryz.prog,19,[],[]⟩ rfl Tryz.func11 rfl rfl (lb_ rfl) (by kernel_rfl) ?_
 unfold dG at b
 refine ai (aa (vI 0) (af (ak (ai (aa (vI c) (aa (vI a) (aa (vB (decide (c<a))) (af ?_))))))))
 rcases aj b with⟨e,b⟩|⟨e,b⟩
 ·refine aB rfl e (ai (aa (vI a) (aa (vI a) (af ?_))))
  obtain rfl:=ae b
  exact ay (Ad (.inr rfl) [(vI a)] _ [0] [au 0] ⟨rfl,trivial⟩ (.cons (jl rfl rfl) (.nil)) (by kernel_rfl) ⟨(by kernel_rfl),trivial⟩ (by decide) (by kernel_rfl))
 ·refine aA rfl e (ax (ai (aa (vI a) (aa (.ref (au 0) 0 0) (aa (vI c) (aa (vI a) (aa (vI (w64 (c-a))) (aa (vI (w64 ((w64 (c-a))+1))) ?_))))))))
  obtain ⟨d,g,b⟩:=bind_some b
  refine dQ 0 [0] il ft (fZ g) rfl MG rfl (by kernel_rfl) (by kernel_rfl) (by kernel_rfl) (by kernel_rfl) (by kernel_rfl) (by kernel_rfl) (by kernel_rfl) (by decide) (by kernel_rfl) wz (vI d.1) (by kernel_rfl) ([((au 0),some (.cells 2 [(vL eI d.2.L),(vI d.2.f_at)]))]:Hp) (by kernel_rfl) (aa (vI (w64 (a+d.1))) (aa (vI (w64 (a+d.1))) (af ?_)))
  obtain rfl:=ae b
  exact ay (Ad (.inr rfl) [(vI (w64 (a+d.1)))] _ [0] [au 0] ⟨rfl,trivial⟩ (.cons (jl rfl rfl) (.nil)) (by kernel_rfl) ⟨(by kernel_rfl),trivial⟩ (by decide) (by kernel_rfl))
theorem lm {d:Stream} {b:(List ByteArray)} {r:ByteArray×Stream} (a:gp d b=some r) :
  FnM Tryz.prog 12 [(.ref (au 0) 0 0),(vL eS b)] [(.cells 2 [(vL eI d.L),(vI d.f_at)])] (vS r.1) [some (.cells 2 [(vL eI r.2.L),(vI r.2.f_at)])]:=by
 refine FnM.of_wH ⟨Tryz.prog,12,[],[]⟩ rfl Tryz.func12 rfl rfl (lb_ rfl) (by kernel_rfl) ?_
 unfold gp at a
 refine ai (aa (vS (⟨#[]⟩:ByteArray)) (af (ai (aa (vL eS b) (aa (.ref (au 0) 0 0) (aa (vL eS b) (bL ru rfl wz ?_)))))))
 obtain ⟨c,f,a⟩:=bind_some a
 refine dQ 0 [0] il ft (fZ f) rfl MG rfl (by kernel_rfl) (by kernel_rfl) (by kernel_rfl) (by kernel_rfl) (by kernel_rfl) (by kernel_rfl) (by kernel_rfl) (by decide) (by kernel_rfl) wz (vI c.1) (by kernel_rfl) ([((au 0),some (.cells 2 [(vL eI c.2.L),(vI c.2.f_at)]))]:Hp) (by kernel_rfl) ?_
 obtain ⟨e,g,a⟩:=bind_some a
 refine dC mI rfl rfl g rfl wz (bC sz9 ag9 rfl (vS e) rfl wz (aa (vS e) (af ?_)))
 obtain rfl:=ae a
 exact ay (Ad (.inr rfl) [(vS e)] _ [0] [au 0] ⟨rfl,trivial⟩ (.cons (jl rfl rfl) (.nil)) (by kernel_rfl) ⟨(by kernel_rfl),trivial⟩ (by decide) (by kernel_rfl))
theorem ll {d:Stream} {b:(List Int)} {r:Int×Stream} (a:iw d b=some r) :
  FnM Tryz.prog 13 [(.ref (au 0) 0 0),(vL eI b)] [(.cells 2 [(vL eI d.L),(vI d.f_at)])] (vI r.1) [some (.cells 2 [(vL eI r.2.L),(vI r.2.f_at)])]:=by
 refine FnM.of_wH ⟨Tryz.prog,12,[],[]⟩ rfl Tryz.func13 rfl rfl (lb_ rfl) (by kernel_rfl) ?_
 unfold iw at a
 refine ai (aa (vI 0) (af (ai (aa (vL eI b) (aa (.ref (au 0) 0 0) (aa (vL eI b) (bL wW rfl wz ?_)))))))
 obtain ⟨c,f,a⟩:=bind_some a
 refine dQ 0 [0] il ft (fZ f) rfl MG rfl (by kernel_rfl) (by kernel_rfl) (by kernel_rfl) (by kernel_rfl) (by kernel_rfl) (by kernel_rfl) (by kernel_rfl) (by decide) (by kernel_rfl) wz (vI c.1) (by kernel_rfl) ([((au 0),some (.cells 2 [(vL eI c.2.L),(vI c.2.f_at)]))]:Hp) (by kernel_rfl) ?_
 obtain ⟨e,g,a⟩:=bind_some a
 refine dC lG rfl rfl g rfl wz (bC sz3 ag3 rfl (vI e) rfl wz (aa (vI e) (af ?_)))
 obtain rfl:=ae a
 exact ay (Ad (.inr rfl) [(vI e)] _ [0] [au 0] ⟨rfl,trivial⟩ (.cons (jl rfl rfl) (.nil)) (by kernel_rfl) ⟨(by kernel_rfl),trivial⟩ (by decide) (by kernel_rfl))
theorem tY {d:Stream} {c:Int} {r:Bool×Stream} (b:jX d c=some r) :
  FnM Tryz.prog 14 [(.ref (au 0) 0 0),(vI c)] [(.cells 2 [(vL eI d.L),(vI d.f_at)])] (vB r.1) [some (.cells 2 [(vL eI r.2.L),(vI r.2.f_at)])]:=by
 refine FnM.of_wH ⟨Tryz.prog,9,[],[]⟩ rfl Tryz.func14 rfl rfl (lb_ rfl) (by kernel_rfl) ?_
 unfold jX at b
 refine ai (aa (vB false) (af (ai (aa (.ref (au 0) 0 0) (aa (vI c) ?_)))))
 obtain ⟨a,e,b⟩:=bind_some b
 refine dQ 0 [0] il ft (fZ e) rfl MG rfl (by kernel_rfl) (by kernel_rfl) (by kernel_rfl) (by kernel_rfl) (by kernel_rfl) (by kernel_rfl) (by kernel_rfl) (by decide) (by kernel_rfl) wz (vI a.1) (by kernel_rfl) ([((au 0),some (.cells 2 [(vL eI a.2.L),(vI a.2.f_at)]))]:Hp) (by kernel_rfl) (aa (vB (a.1==0)) (aa (vB (a.1==0)) (af ?_)))
 obtain rfl:=ae b
 exact ay (Ad (.inr rfl) [(vB (a.1==0))] _ [0] [au 0] ⟨rfl,trivial⟩ (.cons (jl rfl rfl) (.nil)) (by kernel_rfl) ⟨(by kernel_rfl),trivial⟩ (by decide) (by kernel_rfl))
theorem vv {h:Stream} {r:Rect×Stream} (a:iK h=some r) :
  FnM Tryz.prog 15 [(.ref (au 0) 0 0)] [(.cells 2 [(vL eI h.L),(vI h.f_at)])] (.d (.agg (Rect.enc r.1))) [some (.cells 2 [(vL eI r.2.L),(vI r.2.f_at)])]:=by
 refine FnM.of_wH ⟨Tryz.prog,12,[],[]⟩ rfl Tryz.func15 rfl rfl (lb_ rfl) (by kernel_rfl) ?_
 unfold iK at a
 refine ai (dP 0 (.inl rfl) z47 rfl wz (λg=>af (ai (aa (.ref (au 0) 0 0) ?_))))
 obtain ⟨c,k,a⟩:=bind_some a
 refine dQ 0 [0] il ft (fJ k) rfl MK rfl (by kernel_rfl) (by kernel_rfl) (by kernel_rfl) (by kernel_rfl) (by kernel_rfl) (by kernel_rfl) (by kernel_rfl) (by decide) (by kernel_rfl) wz (vI c.1) (by kernel_rfl) ([((au 0),some (.cells 2 [(vL eI c.2.L),(vI c.2.f_at)])),(g,some (.cells 4 [(vI 0),(vI 0),(vI 0),(vI 0)]))]:Hp) (by kernel_rfl) (aa (.ref (au 0) 0 0) ?_)
 obtain ⟨e,l,a⟩:=bind_some a
 refine dQ 0 [0] il ft (fJ l) rfl MK rfl (by kernel_rfl) (by kernel_rfl) (by kernel_rfl) (by kernel_rfl) (by kernel_rfl) (by kernel_rfl) (by kernel_rfl) (by decide) (by kernel_rfl) wz (vI e.1) (by kernel_rfl) ([((au 0),some (.cells 2 [(vL eI e.2.L),(vI e.2.f_at)])),(g,some (.cells 4 [(vI 0),(vI 0),(vI 0),(vI 0)]))]:Hp) (by kernel_rfl) (aa (.ref (au 0) 0 0) ?_)
 obtain ⟨f,i,a⟩:=bind_some a
 refine dQ 0 [0] il ft (fJ i) rfl MK rfl (by kernel_rfl) (by kernel_rfl) (by kernel_rfl) (by kernel_rfl) (by kernel_rfl) (by kernel_rfl) (by kernel_rfl) (by decide) (by kernel_rfl) wz (vI f.1) (by kernel_rfl) ([((au 0),some (.cells 2 [(vL eI f.2.L),(vI f.2.f_at)])),(g,some (.cells 4 [(vI 0),(vI 0),(vI 0),(vI 0)]))]:Hp) (by kernel_rfl) (aa (.ref (au 0) 0 0) ?_)
 obtain ⟨b,j,a⟩:=bind_some a
 refine dQ 0 [0] il ft (fJ j) rfl MK rfl (by kernel_rfl) (by kernel_rfl) (by kernel_rfl) (by kernel_rfl) (by kernel_rfl) (by kernel_rfl) (by kernel_rfl) (by decide) (by kernel_rfl) wz (vI b.1) (by kernel_rfl) ([((au 0),some (.cells 2 [(vL eI b.2.L),(vI b.2.f_at)])),(g,some (.cells 4 [(vI 0),(vI 0),(vI 0),(vI 0)]))]:Hp) (by kernel_rfl) (aI (.d (.agg (Rect.enc (⟨c.1,e.1,f.1,b.1⟩:Rect)))) wz (by kernel_rfl) (gy 0 il ft 1 qw rfl rfl [(vI c.1),(vI e.1),(vI f.1),(vI b.1)] rfl wz (af ?_)))
 obtain rfl:=ae a
 exact ay (Ad (.inr rfl) [(.d (.agg (Rect.enc (⟨c.1,e.1,f.1,b.1⟩:Rect))))] _ [0] [au 0] ⟨⟨1,_,_,_,_,_,_,_,rfl,rfl,qw,EJ,rfl⟩,trivial⟩ (.cons (jl rfl rfl) (.nil)) (by kernel_rfl) ⟨(by kernel_rfl),trivial⟩ (by decide) (by kernel_rfl))
theorem BM {a:Alert} {b:Alert} {r:Int} (c:kR a b=some r) :
  FnM Tryz.prog 17 [(.d (.agg (Alert.enc a))),(.d (.agg (Alert.enc b)))] [] (vI r) []:=by
 refine FnM.of_wH ⟨Tryz.prog,20,[],[]⟩ rfl Tryz.func17 rfl rfl (lb_ rfl) (by kernel_rfl) ?_
 unfold kR at c
 refine ai (iW 0 (.inl rfl) (Alert.v a) rfl rfl wz (λg=>iW 0 (.inl rfl) (Alert.v b) rfl rfl wz (λh=>aa (vI 0) (af (ak (ai (aG qB rfl 4 rfl wz (aF 0 0 il ft sz3 ag3 rfl rfl (vI a.At) rfl wz (aG qB rfl 4 rfl wz (aF 0 1 il ft sz3 ag3 rfl rfl (vI b.At) rfl wz (aa (vB (a.At != b.At)) (af ?_))))))))))))
 rcases aj c with⟨e,c⟩|⟨e,c⟩
 ·refine aB rfl e (ai (aG qB rfl 4 rfl wz (aF 0 0 il ft sz3 ag3 rfl rfl (vI a.At) rfl wz (aG qB rfl 4 rfl wz (aF 0 1 il ft sz3 ag3 rfl rfl (vI b.At) rfl wz (aa (vI (w64 (a.At-b.At))) (aa (vI (w64 (a.At-b.At))) (af ?_))))))))
  obtain rfl:=ae c
  exact ay (aK [(vI (w64 (a.At-b.At)))] ⟨rfl,trivial⟩)
 ·refine aA rfl e (ax (ak (ai (aG uz rfl 0 rfl wz (aF 0 0 il ft sz9 ag9 rfl rfl (vS a.Id) rfl wz (aG uz rfl 0 rfl wz (aF 0 1 il ft sz9 ag9 rfl rfl (vS b.Id) rfl wz (aa (vB (sLt a.Id b.Id)) (af ?_)))))))))
  rcases aj c with⟨f,c⟩|⟨f,c⟩
  ·refine aB rfl f (ai (aa (vI (-1)) (af ?_)))
   obtain rfl:=ae c
   exact ay (aK [(vI (-1))] ⟨rfl,trivial⟩)
  ·refine aA rfl f (ax (ai (aa (vI 1) (af ?_))))
   obtain rfl:=ae c
   exact ay (aK [(vI 1)] ⟨rfl,trivial⟩)
theorem zQ {k:Int} {r:Int} (a:qy k=some r) :
  FnM Tryz.prog 72 [(.d (.int .u64 k))] [] (vI r) []:=by
 refine FnM.of_wH ⟨Tryz.prog,25,[],[]⟩ rfl Tryz.func72 rfl rfl (lb_ rfl) (by kernel_rfl) ?_
 unfold qy at a
 refine ai (aa (vI 0) (af (ak (ai (aa (.d (.int .u64 k)) (aa (vB (decide (k>=4294967296))) (af ?_)))))))
 obtain ⟨b,f,a⟩:=bind_some a
 refine aP [(0,(.d (.int .u64 b.1))),(2,(vI b.2))] [] ?_ ?_
 ·rcases aj f with⟨n,f⟩|⟨n,f⟩
  ·refine aB rfl n (ai (aa (.d (.int .u64 k)) ?_))
   obtain ⟨y,v,f⟩:=bind_some f
   refine NJ rfl rfl v wz (aa (.d (.int .u64 y)) (af (av (aa (vI 32) (af ?_)))))
   obtain rfl:=ae f
   exact cu
  ·refine aA rfl n (ax ?_)
   obtain rfl:=ae f
   exact cu
 ·rintro ⟨⟩ _ q p i j
  refine aN _ i j (ak (ai (aa (.d (.int .u64 b.1)) (aa (vB (decide (b.1>=65536))) (af ?_)))))
  obtain ⟨c,g,a⟩:=bind_some a
  refine aP [(0,(.d (.int .u64 c.1))),(2,(vI c.2))] [] ?_ ?_
  ·rcases aj g with⟨o,g⟩|⟨o,g⟩
   ·refine aB rfl o (ai (aa (.d (.int .u64 b.1)) ?_))
    obtain ⟨w,t,g⟩:=bind_some g
    refine NJ rfl rfl t wz (aa (.d (.int .u64 w)) (af (av (aa (vI b.2) (aa (vI (w64 (b.2+16))) (aa (vI (w64 (b.2+16))) (af ?_)))))))
    obtain rfl:=ae g
    exact cu
   ·refine aA rfl o (ax ?_)
    obtain rfl:=ae g
    exact cu
  ·rintro ⟨⟩ _ q p i j
   refine aN _ i j (ak (ai (aa (.d (.int .u64 c.1)) (aa (vB (decide (c.1>=256))) (af ?_)))))
   obtain ⟨h,e,a⟩:=bind_some a
   refine aP [(0,(.d (.int .u64 h.1))),(2,(vI h.2))] [] ?_ ?_
   ·rcases aj e with⟨m,e⟩|⟨m,e⟩
    ·refine aB rfl m (ai (aa (.d (.int .u64 c.1)) ?_))
     obtain ⟨x,u,e⟩:=bind_some e
     refine NJ rfl rfl u wz (aa (.d (.int .u64 x)) (af (av (aa (vI c.2) (aa (vI (w64 (c.2+8))) (aa (vI (w64 (c.2+8))) (af ?_)))))))
     obtain rfl:=ae e
     exact cu
    ·refine aA rfl m (ax ?_)
     obtain rfl:=ae e
     exact cu
   ·rintro ⟨⟩ _ q p i j
    refine aN _ i j (ai (aa (vI h.2) (aa (.d (.int .u64 h.1)) (xJ un134 un5 rfl wz ?_))))
    obtain ⟨l,s,a⟩:=bind_some a
    refine xI un9 rfl rfl s wz (xJ un5 un3 rfl wz (aa (vI (w64 (h.2+(w64 (l.toNat:Int))))) (aa (vI (w64 (h.2+(w64 (l.toNat:Int))))) (af ?_))))
    obtain rfl:=ae a
    exact ay (aK [(vI (w64 (h.2+(w64 (l.toNat:Int)))))] ⟨rfl,trivial⟩)
theorem uE {b:Int} {r:Int} (a:iV b=some r) :
  FnM Tryz.prog 36 [(.d (.int .u64 b))] [] (vI r) []:=by
 refine FnM.of_wH ⟨Tryz.prog,8,[],[]⟩ rfl Tryz.func36 rfl rfl (lb_ rfl) (by kernel_rfl) ?_
 unfold iV at a
 refine ai (aa (vI 0) (af (ak (aA rfl rfl (ax (ai (aa (.d (.int .u64 b)) ?_)))))))
 obtain ⟨c,e,a⟩:=bind_some a
 refine aD (zQ e) rfl hb72 rfl rfl rfl rfl wz (aa (vI c) (af ?_))
 obtain rfl:=ae a
 exact ay (aK [(vI c)] ⟨rfl,trivial⟩)
theorem ko {k:(List Alert)} {f:Int} {h:Int} {r:(List Alert)} (p:dS k f h=some r) :
  FnM Tryz.prog 63 [(dV (au 0) 9 k),(vI f),(vI h),(.fn 17 [])] (([]:List Box)++gI 9 Alert.enc k) (.tup []) (([]:List Box).map some++gT k (gB 9 Alert.enc r)):=by
 refine FnM.of_wHv ⟨Tryz.prog,53,[],[]⟩ rfl Tryz.func63 rfl rfl (lb_ rfl) (by kernel_rfl) ?_
 unfold dS at p
 refine ai (aa (vI f) (aa (vI (w64 (f+1))) (aa (vI (w64 (f+1))) (af ?_))))
 obtain ⟨Z,y,p⟩:=bind_some p
 obtain ⟨Y,y⟩:=fe y
 refine iA (λ(c:(List Alert)×Int)=>[]) (λ(c:(List Alert)×Int)=>[((au 0),gB 9 Alert.enc c.1)]) (λ(u:Nat)=>(λ(c:(List Alert)×Int)=>[(0,(dV (au 0) 9 c.1)),(1,(vI f)),(2,(vI h)),(3,(.fn 17 [])),(8,(vI c.2))])) (λs=>dI h f s) Z Y (k,(w64 (f+1))) y rfl (aJ rfl) ?_ ?_
 ·rintro ⟨u,c⟩ l
  dsimp only at l
  cases u with
  | zero=>cases l
  | succ u =>
   obtain ⟨L,j,l⟩:=bind_some l
   unfold dI at j
   refine ak (ai (aa (vI c.2) (aa (vI h) (aa (vB (decide (c.2<h))) (af ?_)))))
   rcases aj j with⟨v,j⟩|⟨v,j⟩
   ·refine aB rfl v (ax (ak (aM (ai (aa (vI c.2) (aa (vI c.2) (af ?_)))))))
    obtain ⟨À,z,j⟩:=bind_some j
    obtain ⟨X,z⟩:=fe z
    refine iA (λ(a:(List Alert)×Int)=>[(0,(dV (au 0) 9 a.1)),(1,(vI f)),(2,(vI h)),(3,(.fn 17 [])),(8,(vI c.2))]) (λ(a:(List Alert)×Int)=>[((au 0),gB 9 Alert.enc a.1)]) (λ(t:Nat)=>(λ(a:(List Alert)×Int)=>[(0,(dV (au 0) 9 a.1)),(1,(vI f)),(2,(vI h)),(3,(.fn 17 [])),(8,(vI c.2)),(9,(vI a.2))])) (λs=>dJ f s) À X (c.1,c.2) z rfl (aJ rfl) ?_ ?_
    ·rintro ⟨t,a⟩ m
     dsimp only at m
     cases t with
     | zero=>cases m
     | succ t =>
      obtain ⟨L,b,m⟩:=bind_some m
      unfold dJ at b
      refine ak (ak ?_)
      obtain ⟨Á,e,b⟩:=bind_some b
      refine aP [(0,(dV (au 0) 9 a.1)),(1,(vI f)),(2,(vI h)),(3,(.fn 17 [])),(8,(vI c.2)),(9,(vI a.2)),(34,(vB Á))] [((au 0),gB 9 Alert.enc a.1)] ?_ ?_
      ·refine bD (aa (vI a.2) (aa (vI f) (aa (vB (decide (a.2>f))) ?_)))
       rcases aj e with⟨w,e⟩|⟨w,e⟩
       ·refine aC rfl w wz (aI (.fn 17 []) wa rfl (aI (dV (au 0) 9 a.1) wa rfl (aI (vI a.2) wa rfl ?_)))
        obtain ⟨_,C,e⟩:=bind_some e
        refine oo tF rfl rfl (lC C) (iR C) wa ?_
        obtain ⟨M,P,e⟩:=bind_some e
        refine o8 8 0 (.inr (by kernel_rfl)) (λ_ _ ag=>trivial) mG tH rfl rfl P (.d (.agg (Alert.enc M))) rfl wa (aI (dV (au 0) 9 a.1) wa rfl (aI (vI a.2) wa rfl (aI (vI (w64 (a.2-1))) wa rfl ?_)))
        obtain ⟨_,E,e⟩:=bind_some e
        refine oo tF rfl rfl (lC E) (iR E) wa ?_
        obtain ⟨N,Q,e⟩:=bind_some e
        refine o8 13 0 (.inr (by kernel_rfl)) (λ_ _ ag=>⟨.inl ⟨rfl,rfl⟩,trivial⟩) mG tH rfl rfl Q (.d (.agg (Alert.enc N))) rfl wa ?_
        obtain ⟨J,O,e⟩:=bind_some e
        refine aD (BM O) rfl hb17 rfl rfl rfl rfl wa (aI (vB (decide (J<0))) wa rfl (aa (vB (decide (J<0))) (af ?_)))
        obtain rfl:=ae e
        exact cu
       ·refine aC rfl w wz (ah (ah (ah (ah (ah (ah (ah (ah (ah (ah (ah (ah (aa (vB false) (af ?_))))))))))))))
        obtain rfl:=ae e
        exact cu
      ·rintro ⟨⟩ _ K B q n
       refine aN _ q n ?_
       rcases aj b with⟨x,b⟩|⟨x,b⟩
       ·refine aB rfl x (ax (ak (aM (bD (aa (dV (au 0) 9 a.1) (aa (vI a.2) (aa (dV (au 0) 9 a.1) (aa (vI a.2) (aa (vI (w64 (a.2-1))) (aa (dV (au 0) 9 a.1) (aa (vI a.2) (aa (vI (w64 (a.2-1))) ?_))))))))))))
        obtain ⟨_,F,b⟩:=bind_some b
        refine oo tF rfl rfl (lC F) (iR F) wz ?_
        obtain ⟨g,R,b⟩:=bind_some b
        refine o8 9 0 (.inr (by kernel_rfl)) (λ_ _ ag=>trivial) mG tH rfl rfl R (.d (.agg (Alert.enc g))) rfl wz (aa (dV (au 0) 9 a.1) (aa (vI a.2) ?_))
        obtain ⟨_,G,b⟩:=bind_some b
        refine oo tF rfl rfl (lC G) (iR G) wz ?_
        obtain ⟨i,T,b⟩:=bind_some b
        refine o8 13 0 (.inr (by kernel_rfl)) (λ_ _ ag=>⟨.inl ⟨rfl,rfl⟩,trivial⟩) mG tH rfl rfl T (.d (.agg (Alert.enc i))) rfl wz ?_
        obtain ⟨_,H,b⟩:=bind_some b
        refine oo tF rfl rfl (lC H) (iR H) wz ?_
        obtain ⟨Â,U,b⟩:=bind_some b
        refine BB 15 (.inr (by kernel_rfl)) (λ_ _ ag=>⟨.inr (.inr (by kernel_rfl)),⟨.inr (.inr (by kernel_rfl)),trivial⟩⟩) 0 mG rfl rfl U g rfl wz (gD (v':=(dV (au 0) 9 (a.1.set (0+(a.2).toNat) g))) 0 rfl (fO (by simp)) (gD (v':=(dV (au 0) 9 (a.1.set (0+(a.2).toNat) g))) 37 rfl (fO (by simp)) (gD (v':=(dV (au 0) 9 (a.1.set (0+(a.2).toNat) g))) 39 rfl (fO (by simp)) (gD (v':=(dV (au 0) 9 (a.1.set (0+(a.2).toNat) g))) 42 rfl (fO (by simp)) (gD (v':=(dV (au 0) 9 (a.1.set (0+(a.2).toNat) g))) 47 rfl (fO (by simp)) ?_)))))
        obtain ⟨_,I,b⟩:=bind_some b
        refine oo tF rfl rfl (lC I) (iR I) wz ?_
        obtain ⟨Ã,W,b⟩:=bind_some b
        refine BB 17 (.inr (by kernel_rfl)) (λ_ _ ag=>⟨.inr (.inr (by kernel_rfl)),⟨.inr (.inr (by kernel_rfl)),⟨.inr (.inr (by kernel_rfl)),trivial⟩⟩⟩) 0 mG rfl rfl W i rfl wz (gD (v':=(dV (au 0) 9 ((a.1.set (0+(a.2).toNat) g).set (0+((w64 (a.2-1))).toNat) i))) 0 rfl (fO (by simp)) (gD (v':=(dV (au 0) 9 ((a.1.set (0+(a.2).toNat) g).set (0+((w64 (a.2-1))).toNat) i))) 37 rfl (fO (by simp)) (gD (v':=(dV (au 0) 9 ((a.1.set (0+(a.2).toNat) g).set (0+((w64 (a.2-1))).toNat) i))) 39 rfl (fO (by simp)) (gD (v':=(dV (au 0) 9 ((a.1.set (0+(a.2).toNat) g).set (0+((w64 (a.2-1))).toNat) i))) 42 rfl (fO (by simp)) (gD (v':=(dV (au 0) 9 ((a.1.set (0+(a.2).toNat) g).set (0+((w64 (a.2-1))).toNat) i))) 47 rfl (fO (by simp)) (af (av (aa (vI a.2) (aa (vI (w64 (a.2-1))) (aa (vI (w64 (a.2-1))) (af ?_)))))))))))
        obtain rfl:=ae b
        exact bf (t,(((a.1.set (0+(a.2).toNat) g).set (0+((w64 (a.2-1))).toNat) i),(w64 (a.2-1)))) m (ls_ _) rfl (aJ rfl)
       ·refine aA rfl x (bg ?_)
        obtain rfl:=ae b
        obtain rfl:=ae m
        exact aY ((a.1,a.2)) rfl rfl (aJ rfl)
    ·rintro a A K B q n
     subst A
     refine aN _ q n (av (aa (vI c.2) (aa (vI (w64 (c.2+1))) (aa (vI (w64 (c.2+1))) (af ?_)))))
     obtain rfl:=ae j
     exact bf (u,(a.1,(w64 (c.2+1)))) l (ls_ _) rfl (aJ rfl)
   ·refine aA rfl v (bg ?_)
    obtain rfl:=ae j
    obtain rfl:=ae l
    exact aY ((c.1,c.2)) rfl rfl (aJ rfl)
 ·rintro c A K B q n
  subst A
  show vF _ _ _ _ _ _ _ _
  obtain rfl:=ae p
  exact DK (H0:=([((au 0),gB 9 Alert.enc c.1)]:Hp)) (sl':=envS []) n (EE (bs:=([]:List Box)) (os:=([]:List Box)) (xs:=k) (o:=gB 9 Alert.enc c.1) (.inl rfl) [] trivial rfl rfl rfl rfl rfl (by kernel_rfl) rF rfl)
theorem mO {a:(List Alert)} {c:Int} {d:Int} {e:Int} {r:(List Alert)} (f:fK a c d e=some r) :
  FnM Tryz.prog 35 [(dV (au 0) 9 a),(vI c),(vI d),(vI e),(.fn 17 [])] (([]:List Box)++gI 9 Alert.enc a) (.tup []) (([]:List Box).map some++gT a (gB 9 Alert.enc r)):=by
 refine FnM.of_wHv ⟨Tryz.prog,148,[],[]⟩ rfl Tryz.func35 rfl rfl (lb_ rfl) (by kernel_rfl) ?_
 unfold fK at f
 refine ai (aa (vB true) (af (ai (aa (vB true) (af ?_)))))
 obtain ⟨v,m,f⟩:=bind_some f
 obtain ⟨u,m⟩:=fe m
 refine iA (λ(j:Unit)=>[]) (λ(j:Unit)=>[((au 0),gB 9 Alert.enc a)]) (λ(n:Nat)=>(λ(j:Unit)=>[(0,(dV (au 0) 9 a)),(1,(vI c)),(2,(vI d)),(3,(vI e)),(4,(.fn 17 [])),(10,(vB true)),(11,(vB true))])) (λs=>eF d c a e s) v u () m rfl (aJ rfl) ?_ ?_
 ·rintro ⟨n,j⟩ g
  dsimp only at g
  cases n with
  | zero=>cases g
  | succ n =>
   obtain ⟨x,b,g⟩:=bind_some g
   unfold eF at b
   refine aM (ai (aa (vI d) (aa (vI c) (aa (vI (w64 (d-c))) (aa (vI (w64 (d-c))) (af (ak (ai (aa (vI (w64 (d-c))) (aa (vB (decide ((w64 (d-c))<=12))) (af ?_)))))))))))
   rcases aj b with⟨k,b⟩|⟨k,b⟩
   ·refine aB rfl k (ai (aa (dV (au 0) 9 a) (aa (vI c) (aa (vI d) (aa (.fn 17 []) ?_)))))
    obtain ⟨i,t,b⟩:=bind_some b
    obtain ⟨_,h,b⟩:=bind_some b
    replace h:=sV h
    refine ug 0 [] 0 0 il ft (ko t) rfl hb63 rfl rfl rfl (by kernel_rfl) rfl (.inr (.inl rfl)) rfl (by kernel_rfl) (by kernel_rfl) (by kernel_rfl) (by kernel_rfl) rfl (by decide) (by kernel_rfl) rF (EG h) wz ([((au 0),gB 9 Alert.enc i)]:Hp) (by kernel_rfl) (gD (v':=(dV (au 0) 9 i)) 0 rfl (fO h.symm) (gD (v':=(dV (au 0) 9 i)) 26 rfl (fO h.symm) (af ?_)))
    obtain rfl:=ae b
    obtain rfl:=ae g
    obtain rfl:=ae f
    exact ay (EE (bs:=([]:List Box)) (os:=([]:List Box)) (xs:=a) (o:=gB 9 Alert.enc i) (.inr rfl) [] trivial rfl rfl rfl rfl rfl (by kernel_rfl) rF rfl)
   ·refine aA rfl k (ax (ak (ai (aa (vI e) (aa (vB (e==0)) (af ?_))))))
    rcases aj b with⟨l,b⟩|⟨l,b⟩
    ·refine aB rfl l (ai (aa (dV (au 0) 9 a) (aa (vI c) (aa (vI d) (aa (.fn 17 []) ?_)))))
     cases b
    ·refine aA rfl l (ax (ak (ai (aa (vB true) (aa (vB false) (af (aA rfl rfl (ax (ai (aa (dV (au 0) 9 a) (aa (vI c) (aa (vI d) (aa (.fn 17 []) ?_)))))))))))))
     cases b
 ·rintro j p z w y q
  subst p
  show vF _ _ _ _ _ _ _ _
  obtain rfl:=ae f
  exact DK (H0:=([((au 0),gB 9 Alert.enc a)]:Hp)) (sl':=envS []) q (EE (bs:=([]:List Box)) (os:=([]:List Box)) (xs:=a) (o:=gB 9 Alert.enc a) (.inl rfl) [] trivial rfl rfl rfl rfl rfl (by kernel_rfl) rF rfl)
theorem kK {a:(List Alert)} {r:(List Alert)} (b:bS a=some r) :
  FnM Tryz.prog 16 [(dV (au 0) 9 a),(.fn 17 [])] (([]:List Box)++gI 9 Alert.enc a) (.tup []) (([]:List Box).map some++gT a (gB 9 Alert.enc r)):=by
 refine FnM.of_wHv ⟨Tryz.prog,14,[],[]⟩ rfl Tryz.func16 rfl rfl (lb_ rfl) (by kernel_rfl) ?_
 unfold bS at b
 refine ai (aa (dV (au 0) 9 a) (I5 zI rfl wz (aa (vI (a.length:Int)) (af (av (aa (dV (au 0) 9 a) (aa (vI (a.length:Int)) (aa (vI (a.length:Int)) (xJ un3 un93 rfl wz ?_)))))))))
 obtain ⟨g,e,b⟩:=bind_some b
 refine aD (uE e) rfl hb36 rfl rfl rfl rfl wz (aa (.fn 17 []) ?_)
 obtain ⟨d,f,b⟩:=bind_some b
 obtain ⟨_,c,b⟩:=bind_some b
 replace c:=sV c
 refine ug 0 [] 0 0 il ft (mO f) rfl hb35 rfl rfl rfl (by kernel_rfl) rfl (.inr (.inl rfl)) rfl (by kernel_rfl) (by kernel_rfl) (by kernel_rfl) (by kernel_rfl) rfl (by decide) (by kernel_rfl) rF (EG c) wz ([((au 0),gB 9 Alert.enc d)]:Hp) (by kernel_rfl) (gD (v':=(dV (au 0) 9 d)) 0 rfl (fO c.symm) (gD (v':=(dV (au 0) 9 d)) 5 rfl (fO c.symm) (gD (v':=(dV (au 0) 9 d)) 7 rfl (fO c.symm) (af ?_))))
 show vF _ _ _ _ _ _ _ _
 obtain rfl:=ae b
 exact EE (bs:=([]:List Box)) (os:=([]:List Box)) (xs:=a) (o:=gB 9 Alert.enc d) (.inl rfl) [] trivial rfl rfl rfl rfl rfl (by kernel_rfl) rF rfl
theorem nz {Ù:Stream} {Ø:Int} {r:(List Alert)×Stream} (B:dU Ù Ø=some r) :
  FnM Tryz.prog 4 [(.ref (au 0) 0 0),(vI Ø)] [(.cells 2 [(vL eI Ù.L),(vI Ù.f_at)])] (vL Alert.enc r.1) [some (.cells 2 [(vL eI r.2.L),(vI r.2.f_at)])]:=by
 refine FnM.of_wH ⟨Tryz.prog,101,[],[]⟩ rfl Tryz.func4 rfl rfl (lb_ rfl) (by kernel_rfl) ?_
 unfold dU at B
 refine ai (aa .nil (af (ai (aa .nil (af (ak (ai (eD (([(⟨#[97,97]⟩:ByteArray),(⟨#[97,98]⟩:ByteArray),(⟨#[97,99]⟩:ByteArray),(⟨#[97,100]⟩:ByteArray),(⟨#[97,101]⟩:ByteArray),(⟨#[97,102]⟩:ByteArray)]:List ByteArray).map eS) mI DD rfl rfl rfl rfl rfl wz (aa (.ref (au 0) 0 0) (aa (vI Ø) ?_))))))))))
 obtain ⟨È,ì,B⟩:=bind_some B
 refine dQ 0 [0] il ft (fJ ì) rfl MK rfl (by kernel_rfl) (by kernel_rfl) (by kernel_rfl) (by kernel_rfl) (by kernel_rfl) (by kernel_rfl) (by kernel_rfl) (by decide) (by kernel_rfl) wz (vI È.1) (by kernel_rfl) ([((au 0),some (.cells 2 [(vL eI È.2.L),(vI È.2.f_at)]))]:Hp) (by kernel_rfl) ?_
 obtain ⟨m,ñ,B⟩:=bind_some B
 refine wN ru sz9 (λ_=>rfl) rfl rfl ñ wz (bL ru rfl wz (aa (vI 0) (af (mR (λõ => ?_)))))
 obtain ⟨ø,Ñ,B⟩:=bind_some B
 obtain ⟨â,Ñ⟩:=aZ Ñ
 refine iq (σ:=(List Alert)×(List Int)×Int) (N:=Nm) (λp=>(λ(c:(List Alert)×(List Int)×Int) (b:Nm)=>([(5,(gV b 9 c.1))]:SL_)) p.1 p.2) (λp=>(λ(c:(List Alert)×(List Int)×Int) (b:Nm)=>([((au 0),some (.cells 2 [(vL eI c.2.1),(vI c.2.2)])),(b,gB 9 Alert.enc c.1)]:Hp)) p.1 p.2) (λ(u:Nat)=>(λp=>(λ(c:(List Alert)×(List Int)×Int) (b:Nm)=>([(0,(.ref (au 0) 0 0)),(5,(gV b 9 c.1)),(15,(vL eS m)),(16,(vI (m.length:Int))),(17,(vI (u:Int)))]:SL_)) p.1 p.2)) (λk x s=>dR k x s) ø m ((([]:List Alert),È.2.L,È.2.f_at),õ) Ñ rfl (aJ rfl) ?_ ?_
 ·rintro ⟨u,Ö,c,b⟩ ⟨Â,R⟩
  dsimp only at Â R
  cases Ö with
  | nil =>
   obtain rfl:=ae Â
   refine ai (aa (vB (decide ((u:Int)<(m.length:Int)))) (af ?_))
   refine ak (aA rfl (drop_nil R) (bg ?_))
   exact aY (c,b) rfl rfl (aJ rfl)
  | cons e Ö =>
   obtain ⟨Ý,q,Â⟩:=bind_some Â
   refine ai (aa (vB (decide ((u:Int)<(m.length:Int)))) (af ?_))
   refine ak (aB rfl (bz R) (ax ?_))
   unfold dR at q
   refine ak (aM (ai (dC mI rfl rfl (bI R) rfl wz (bC sz9 ag9 rfl (vS e) rfl wz (aa (vS e) (af (ai (aa (vS e) (aa (.ref (au 0) 0 0) (eD (([(⟨#[119,120]⟩:ByteArray),(⟨#[119,120]⟩:ByteArray),(⟨#[102,105,114,101]⟩:ByteArray)]:List ByteArray).map eS) mI DD rfl rfl rfl rfl rfl wz ?_))))))))))
   obtain ⟨h,æ,q⟩:=bind_some q
   refine dQ 0 [0] il ft (lm æ) rfl hb12 rfl (by kernel_rfl) (by kernel_rfl) (by kernel_rfl) (by kernel_rfl) (by kernel_rfl) (by kernel_rfl) (by kernel_rfl) (by decide) (by kernel_rfl) wz (vS h.1) (by kernel_rfl) ([((au 0),some (.cells 2 [(vL eI h.2.L),(vI h.2.f_at)])),(b,gB 9 Alert.enc c.1)]:Hp) (by kernel_rfl) (aa (.ref (au 0) 0 0) (eD (([1,1,2,2,3]:List Int).map eI) lG Dt rfl rfl rfl rfl rfl wz ?_))
   obtain ⟨f,ç,q⟩:=bind_some q
   refine dQ 0 [0] il ft (ll ç) rfl hb13 rfl (by kernel_rfl) (by kernel_rfl) (by kernel_rfl) (by kernel_rfl) (by kernel_rfl) (by kernel_rfl) (by kernel_rfl) (by decide) (by kernel_rfl) wz (vI f.1) (by kernel_rfl) ([((au 0),some (.cells 2 [(vL eI f.2.L),(vI f.2.f_at)])),(b,gB 9 Alert.enc c.1)]:Hp) (by kernel_rfl) (aa (.ref (au 0) 0 0) ?_)
   obtain ⟨a,è,q⟩:=bind_some q
   refine dQ 0 [0] il ft (fJ è) rfl MK rfl (by kernel_rfl) (by kernel_rfl) (by kernel_rfl) (by kernel_rfl) (by kernel_rfl) (by kernel_rfl) (by kernel_rfl) (by decide) (by kernel_rfl) wz (vI a.1) (by kernel_rfl) ([((au 0),some (.cells 2 [(vL eI a.2.L),(vI a.2.f_at)])),(b,gB 9 Alert.enc c.1)]:Hp) (by kernel_rfl) (aa (vI (w64 (a.1*5))) (aa (.ref (au 0) 0 0) (eD (([1,5,5,9]:List Int).map eI) lG Dt rfl rfl rfl rfl rfl wz ?_)))
   obtain ⟨l,é,q⟩:=bind_some q
   refine dQ 0 [0] il ft (ll é) rfl hb13 rfl (by kernel_rfl) (by kernel_rfl) (by kernel_rfl) (by kernel_rfl) (by kernel_rfl) (by kernel_rfl) (by kernel_rfl) (by decide) (by kernel_rfl) wz (vI l.1) (by kernel_rfl) ([((au 0),some (.cells 2 [(vL eI l.2.L),(vI l.2.f_at)])),(b,gB 9 Alert.enc c.1)]:Hp) (by kernel_rfl) (aa (.ref (au 0) 0 0) (eD (([(⟨#[102,108,111,111,100]⟩:ByteArray),(⟨#[102,105,114,101,32,105,110,32,116,104,101,32,109,97,108,108]⟩:ByteArray)]:List ByteArray).map eS) mI DD rfl rfl rfl rfl rfl wz ?_))
   obtain ⟨n,ê,q⟩:=bind_some q
   refine dQ 0 [0] il ft (lm ê) rfl hb12 rfl (by kernel_rfl) (by kernel_rfl) (by kernel_rfl) (by kernel_rfl) (by kernel_rfl) (by kernel_rfl) (by kernel_rfl) (by decide) (by kernel_rfl) wz (vS n.1) (by kernel_rfl) ([((au 0),some (.cells 2 [(vL eI n.2.L),(vI n.2.f_at)])),(b,gB 9 Alert.enc c.1)]:Hp) (by kernel_rfl) (aI (.agg [(vS e),(vS h.1),(vI f.1),.nil,(vI (w64 (a.1*5))),(vI 0),(vI l.1),.nil,(vS n.1)]) wz (by kernel_rfl) (dP 0 (.inl rfl) z37 rfl wz (λo=>gy 0 il ft 2 mG rfl rfl [(vS e),(vS h.1),(vI f.1),.nil,(vI (w64 (a.1*5))),(vI 0),(vI l.1),.nil,(vS n.1)] rfl wz (af (ak (bD (aG qB rfl 4 rfl wz (aF 1 2 (.inr (by kernel_rfl)) (λ_ _ ag=>trivial) sz3 ag3 rfl rfl (vI (w64 (a.1*5))) rfl wz (aa (.ref (au 0) 0 0) (eD (([1,10,20,50]:List Int).map eI) lG Dt rfl rfl rfl rfl rfl wz ?_))))))))))
   obtain ⟨g,ë,q⟩:=bind_some q
   refine dQ 4 [0] (.inr (by kernel_rfl)) (λ_ _ ag=>by exact⟨.inr (.inl (dis1 (QB ag (i:=0) (j:=2) rfl rfl (by decide)))),trivial⟩) (ll ë) rfl hb13 rfl (by kernel_rfl) (by kernel_rfl) (by kernel_rfl) (by kernel_rfl) (by kernel_rfl) (by kernel_rfl) (by kernel_rfl) (by decide) (by kernel_rfl) wz (vI g.1) (by kernel_rfl) ([((au 0),some (.cells 2 [(vL eI g.2.L),(vI g.2.f_at)])),(b,gB 9 Alert.enc c.1),(o,some (.cells 9 [(vS e),(vS h.1),(vI f.1),.nil,(vI (w64 (a.1*5))),(vI 0),(vI l.1),.nil,(vS n.1)]))]:Hp) (by kernel_rfl) (aa (vI (w64 ((w64 (a.1*5))+g.1))) (aG IM rfl 5 rfl wz (gy 7 (.inr (by kernel_rfl)) (λ_ _ ag=>⟨.inr (.inr (by kernel_rfl)),⟨.inr (.inr (by kernel_rfl)),trivial⟩⟩) 2 sz3 rfl rfl [(vS e),(vS h.1),(vI f.1),.nil,(vI (w64 (a.1*5))),(vI (w64 ((w64 (a.1*5))+g.1))),(vI l.1),.nil,(vS n.1)] rfl wz (af (aN (H0:=([((au 0),some (.cells 2 [(vL eI g.2.L),(vI g.2.f_at)])),(b,gB 9 Alert.enc c.1),(o,some (.cells 9 [(vS e),(vS h.1),(vI f.1),.nil,(vI (w64 (a.1*5))),(vI (w64 ((w64 (a.1*5))+g.1))),(vI l.1),.nil,(vS n.1)]))]:Hp)) ([(0,(.ref (au 0) 0 0)),(5,(gV b 9 c.1)),(7,(vS e)),(8,(.ref o 0 0)),(15,(vL eS m)),(16,(vI (m.length:Int))),(17,(vI (u:Int)))]:SL_) (by kernel_rfl) (ul (by kernel_rfl)) (ak (ai (aG Aa rfl 2 rfl wz (aF 0 2 il ft sz3 ag3 rfl rfl (vI f.1) rfl wz (aa (vB (f.1 != 1)) (af ?_)))))))))))
   obtain ⟨z,E,q⟩:=bind_some q
   refine PL (β:=Unit) (λ_=>([(0,(.ref (au 0) 0 0)),(5,(gV b 9 c.1)),(8,(.ref o 0 0)),(15,(vL eS m)),(16,(vI (m.length:Int))),(17,(vI (u:Int)))]:SL_)) (λ_=>([((au 0),some (.cells 2 [(vL eI z.1),(vI z.2.1)])),(b,gB 9 Alert.enc c.1),(o,some (.cells 9 [(vS e),(vS h.1),(vI f.1),(vL eS z.2.2),(vI (w64 (a.1*5))),(vI (w64 ((w64 (a.1*5))+g.1))),(vI l.1),.nil,(vS n.1)]))]:Hp)) (λ_=>True) ?_ ?_
   ·rcases aj E with⟨Ì,E⟩|⟨Ì,E⟩
    ·refine aB rfl Ì (ak (ai (eD (([(⟨#[97,97]⟩:ByteArray),(⟨#[97,98]⟩:ByteArray),(⟨#[97,99]⟩:ByteArray),(⟨#[97,100]⟩:ByteArray),(⟨#[122,122]⟩:ByteArray)]:List ByteArray).map eS) mI DD rfl rfl rfl rfl rfl wz (bL ru rfl wz (aa (vI 0) (af (mR (λö => ?_))))))))
     obtain ⟨ù,Ò,E⟩:=bind_some E
     obtain ⟨ã,Ò⟩:=aZ Ò
     refine iq (σ:=(List ByteArray)×(List Int)×Int) (N:=Nm) (λp=>(λ(t:(List ByteArray)×(List Int)×Int) (v:Nm)=>([(0,(.ref (au 0) 0 0)),(5,(gV b 9 c.1)),(8,(.ref o 0 0)),(15,(vL eS m)),(16,(vI (m.length:Int))),(17,(vI (u:Int)))]:SL_)) p.1 p.2) (λp=>(λ(t:(List ByteArray)×(List Int)×Int) (v:Nm)=>([((au 0),some (.cells 2 [(vL eI t.2.1),(vI t.2.2)])),(b,gB 9 Alert.enc c.1),(o,some (.cells 9 [(vS e),(vS h.1),(vI f.1),(gV v 1 t.1),(vI (w64 (a.1*5))),(vI (w64 ((w64 (a.1*5))+g.1))),(vI l.1),.nil,(vS n.1)])),(v,gB 1 eS t.1)]:Hp)) p.1 p.2) (λ(I:Nat)=>(λp=>(λ(t:(List ByteArray)×(List Int)×Int) (v:Nm)=>([(0,(.ref (au 0) 0 0)),(5,(gV b 9 c.1)),(7,(vS e)),(8,(.ref o 0 0)),(15,(vL eS m)),(16,(vI (m.length:Int))),(17,(vI (u:Int))),(48,(vL eS ([(⟨#[97,97]⟩:ByteArray),(⟨#[97,98]⟩:ByteArray),(⟨#[97,99]⟩:ByteArray),(⟨#[97,100]⟩:ByteArray),(⟨#[122,122]⟩:ByteArray)]:List ByteArray))),(49,(vI (([(⟨#[97,97]⟩:ByteArray),(⟨#[97,98]⟩:ByteArray),(⟨#[97,99]⟩:ByteArray),(⟨#[97,100]⟩:ByteArray),(⟨#[122,122]⟩:ByteArray)]:List ByteArray).length:Int))),(50,(vI (I:Int)))]:SL_)) p.1 p.2)) (λk x s=>dz e k x s) ù ([(⟨#[97,97]⟩:ByteArray),(⟨#[97,98]⟩:ByteArray),(⟨#[97,99]⟩:ByteArray),(⟨#[97,100]⟩:ByteArray),(⟨#[122,122]⟩:ByteArray)]:List ByteArray) ((([]:List ByteArray),g.2.L,g.2.f_at),ö) Ò rfl (aJ rfl) ?_ ?_
     ·rintro ⟨I,Ô,t,v⟩ ⟨Ã,T⟩
      dsimp only at Ã T
      cases Ô with
      | nil =>
       obtain rfl:=ae Ã
       refine ai (aa (vB (decide ((I:Int)<(([(⟨#[97,97]⟩:ByteArray),(⟨#[97,98]⟩:ByteArray),(⟨#[97,99]⟩:ByteArray),(⟨#[97,100]⟩:ByteArray),(⟨#[122,122]⟩:ByteArray)]:List ByteArray).length:Int)))) (af ?_))
       refine ak (aA rfl (drop_nil T) (bg ?_))
       exact aY (t,v) rfl rfl (aJ rfl)
      | cons P Ô =>
       obtain ⟨Ý,U,Ã⟩:=bind_some Ã
       refine ai (aa (vB (decide ((I:Int)<(([(⟨#[97,97]⟩:ByteArray),(⟨#[97,98]⟩:ByteArray),(⟨#[97,99]⟩:ByteArray),(⟨#[97,100]⟩:ByteArray),(⟨#[122,122]⟩:ByteArray)]:List ByteArray).length:Int)))) (af ?_))
       refine ak (aB rfl (bz T) (ax ?_))
       unfold dz at U
       refine ak (aM (ai (dC mI rfl rfl (bI T) rfl wz (bC sz9 ag9 rfl (vS P) rfl wz (aa (vS P) (af (ak ?_)))))))
       obtain ⟨O,J,U⟩:=bind_some U
       refine aP [(0,(.ref (au 0) 0 0)),(5,(gV b 9 c.1)),(7,(vS e)),(8,(.ref o 0 0)),(10,(vS P)),(15,(vL eS m)),(16,(vI (m.length:Int))),(17,(vI (u:Int))),(48,(vL eS ([(⟨#[97,97]⟩:ByteArray),(⟨#[97,98]⟩:ByteArray),(⟨#[97,99]⟩:ByteArray),(⟨#[97,100]⟩:ByteArray),(⟨#[122,122]⟩:ByteArray)]:List ByteArray))),(49,(vI (([(⟨#[97,97]⟩:ByteArray),(⟨#[97,98]⟩:ByteArray),(⟨#[97,99]⟩:ByteArray),(⟨#[97,100]⟩:ByteArray),(⟨#[122,122]⟩:ByteArray)]:List ByteArray).length:Int))),(50,(vI (I:Int))),(60,(vB O.1))] [((au 0),some (.cells 2 [(vL eI O.2.1),(vI O.2.2)])),(b,gB 9 Alert.enc c.1),(o,some (.cells 9 [(vS e),(vS h.1),(vI f.1),(gV v 1 t.1),(vI (w64 (a.1*5))),(vI (w64 ((w64 (a.1*5))+g.1))),(vI l.1),.nil,(vS n.1)])),(v,gB 1 eS t.1)] ?_ ?_
       ·refine av (aa (vS P) (aa (vS e) (aa (vB (sNe P e)) ?_)))
        rcases aj J with⟨Í,J⟩|⟨Í,J⟩
        ·refine aC rfl Í wz (aI (.ref (au 0) 0 0) wa rfl ?_)
         obtain ⟨Ê,í,J⟩:=bind_some J
         refine dQ 0 [0] il ft (tY í) rfl hb14 rfl (by kernel_rfl) (by kernel_rfl) (by kernel_rfl) (by kernel_rfl) (by kernel_rfl) (by kernel_rfl) (by kernel_rfl) (by decide) (by kernel_rfl) wa (vB Ê.1) (by kernel_rfl) ([((au 0),some (.cells 2 [(vL eI Ê.2.L),(vI Ê.2.f_at)])),(b,gB 9 Alert.enc c.1),(o,some (.cells 9 [(vS e),(vS h.1),(vI f.1),(gV v 1 t.1),(vI (w64 (a.1*5))),(vI (w64 ((w64 (a.1*5))+g.1))),(vI l.1),.nil,(vS n.1)])),(v,gB 1 eS t.1)]:Hp) (by kernel_rfl) (aa (vB Ê.1) (af ?_))
         obtain rfl:=ae J
         exact cu
        ·refine aC rfl Í wz (ah (ah (aa (vB false) (af ?_))))
         obtain rfl:=ae J
         exact cu
       ·rintro ⟨⟩ _ À Q w y
        refine aN _ w y ?_
        obtain ⟨Ú,K,U⟩:=bind_some U
        refine lD (β:=Nm) (λ(Ç:Nm)=>([(0,(.ref (au 0) 0 0)),(5,(gV b 9 c.1)),(7,(vS e)),(8,(.ref o 0 0)),(15,(vL eS m)),(16,(vI (m.length:Int))),(17,(vI (u:Int))),(48,(vL eS ([(⟨#[97,97]⟩:ByteArray),(⟨#[97,98]⟩:ByteArray),(⟨#[97,99]⟩:ByteArray),(⟨#[97,100]⟩:ByteArray),(⟨#[122,122]⟩:ByteArray)]:List ByteArray))),(49,(vI (([(⟨#[97,97]⟩:ByteArray),(⟨#[97,98]⟩:ByteArray),(⟨#[97,99]⟩:ByteArray),(⟨#[97,100]⟩:ByteArray),(⟨#[122,122]⟩:ByteArray)]:List ByteArray).length:Int))),(50,(vI (I:Int)))]:SL_)) (λ(Ç:Nm)=>([((au 0),some (.cells 2 [(vL eI O.2.1),(vI O.2.2)])),(b,gB 9 Alert.enc c.1),(o,some (.cells 9 [(vS e),(vS h.1),(vI f.1),(gV Ç 1 Ú),(vI (w64 (a.1*5))),(vI (w64 ((w64 (a.1*5))+g.1))),(vI l.1),.nil,(vS n.1)])),(Ç,gB 1 eS Ú)]:Hp)) (λ_=>True) ?_ ?_
        ·rcases aj K with⟨Î,K⟩|⟨Î,K⟩
         ·refine aB rfl Î (av (aG qG rfl 3 rfl wz (aF 0 2 il ft Ar Ep rfl rfl (gV v 1 t.1) rfl wz (aa (vS P) (eD (([P]:List ByteArray).map eS) mI DD rfl rfl rfl rfl rfl wz ?_)))))
          obtain ⟨á,ô,K⟩:=bind_some K
          refine kY 0 il ft (i:=3) Ox Ox sz9 z9 rfl (by decide) by9 (by decide) (λ_=>rfl) rfl rfl rfl ô wz (λà=>aG qG rfl 3 rfl wz (gy 0 il ft 2 Ar rfl rfl [(vS e),(vS h.1),(vI f.1),(gV à 1 á),(vI (w64 (a.1*5))),(vI (w64 ((w64 (a.1*5))+g.1))),(vI l.1),.nil,(vS n.1)] (Nw rfl) wz (af ?_)))
          obtain rfl:=ae K
          exact aY à trivial rfl (aJ rfl)
         ·refine aA rfl Î (ax ?_)
          obtain rfl:=ae K
          exact aY v trivial rfl (aJ rfl)
        ·rintro Ç _ À Q w y
         refine aN _ w y (av (fC (bG T ã) wz rfl (aa (vI ((I+1:Nat):Int)) (af ?_))))
         obtain rfl:=ae U
         exact bf (I+1,Ô,(Ú,O.2.1,O.2.2),Ç) ⟨Ã,aW T⟩ (ls_ _) rfl (aJ rfl)
     ·rintro ⟨t,v⟩ Å À Q w y
      subst Å
      refine aN _ w y (ai (aG qG rfl 3 rfl wz (aF 0 2 il ft Ar Ep rfl rfl (gV v 1 t.1) rfl wz (rG ru rfl wz (aa (vB ((t.1.length:Int)==0)) (af ?_))))))
      rcases aj E with⟨Ï,E⟩|⟨Ï,E⟩
      ·refine aB rfl Ï (av (eD (([(⟨#[122,121]⟩:ByteArray)]:List ByteArray).map eS) mI DD rfl rfl rfl rfl rfl wz (aG qG rfl 3 rfl wz (gy 0 il ft 2 Ar rfl rfl [(vS e),(vS h.1),(vI f.1),(vL eS ([(⟨#[122,121]⟩:ByteArray)]:List ByteArray)),(vI (w64 (a.1*5))),(vI (w64 ((w64 (a.1*5))+g.1))),(vI l.1),.nil,(vS n.1)] rfl wz (af ?_)))))
       intro C_ b_ Q_ key_
       obtain rfl:=ae E
       exact key_ () trivial _ _ rfl (aJ rfl)
      ·refine aA rfl Ï (ax ?_)
       intro C_ b_ Q_ key_
       refine ig 3 rfl (fT 69 3 rfl rfl (wH_coc3 3 2 [false,false,false,true,false,false,false,false,false] [(vS e),(vS h.1),(vI f.1),(vL eS t.1),(vI (w64 (a.1*5))),(vI (w64 ((w64 (a.1*5))+g.1))),(vI l.1),.nil,(vS n.1)] rfl rfl rfl (λS hS=>jk (rfl) (jk (rfl) (jk (rfl) (jk (hS) (jk (rfl) (jk (rfl) (jk (rfl) (jk (rfl) (jk (rfl) (rfl)))))))))) ?_))
       obtain rfl:=ae E
       exact key_ () trivial _ _ rfl (aJ rfl)
    ·refine aA rfl Ì (ax ?_)
     intro C_ b_ Q_ key_
     refine wH_coc1 2 [false,false,false,true,false,false,false,false,false] [(vS e),(vS h.1),(vI f.1),(vL eS ([]:List ByteArray)),(vI (w64 (a.1*5))),(vI (w64 ((w64 (a.1*5))+g.1))),(vI l.1),.nil,(vS n.1)] rfl rfl (λ_=>rfl) ?_
     obtain rfl:=ae E
     exact key_ () trivial _ _ rfl (aJ rfl)
   ·rintro ⟨⟩ _ À Q w y
    refine aN _ w y (ak (ai (aG Aa rfl 2 rfl wz (aF 0 2 il ft sz3 ag3 rfl rfl (vI f.1) rfl wz (aa (vB (f.1==3)) (af (mR (λM => ?_))))))))
    obtain ⟨A,F,q⟩:=bind_some q
    refine lD (β:=Nm) (λ(É:Nm)=>([(0,(.ref (au 0) 0 0)),(5,(gV b 9 c.1)),(8,(.ref o 0 0)),(15,(vL eS m)),(16,(vI (m.length:Int))),(17,(vI (u:Int)))]:SL_)) (λ(É:Nm)=>([((au 0),some (.cells 2 [(vL eI A.2.1),(vI A.2.2.1)])),(b,gB 9 Alert.enc c.1),(o,some (.cells 9 [(vS e),(vS h.1),(vI f.1),(vL eS z.2.2),(vI (w64 (a.1*5))),(vI (w64 ((w64 (a.1*5))+g.1))),(vI l.1),(gV É 4 A.1),(vS A.2.2.2)])),(É,gB 4 Rect.enc A.1)]:Hp)) (λ_=>True) ?_ ?_
    ·rcases aj F with⟨Ð,F⟩|⟨Ð,F⟩
     ·refine aB rfl Ð (av (aa (.ref (au 0) 0 0) (eD (([(⟨#[]⟩:ByteArray),(⟨#[111,118,101,114]⟩:ByteArray)]:List ByteArray).map eS) mI DD rfl rfl rfl rfl rfl wz ?_)))
      obtain ⟨Ë,î,F⟩:=bind_some F
      refine dQ 0 [0] il ft (lm î) rfl hb12 rfl (by kernel_rfl) (by kernel_rfl) (by kernel_rfl) (by kernel_rfl) (by kernel_rfl) (by kernel_rfl) (by kernel_rfl) (by decide) (by kernel_rfl) wz (vS Ë.1) (by kernel_rfl) ([((au 0),some (.cells 2 [(vL eI Ë.2.L),(vI Ë.2.f_at)])),(b,gB 9 Alert.enc c.1),(o,some (.cells 9 [(vS e),(vS h.1),(vI f.1),(vL eS z.2.2),(vI (w64 (a.1*5))),(vI (w64 ((w64 (a.1*5))+g.1))),(vI l.1),(gV M 4 ([]:List Rect)),(vS n.1)])),(M,gB 4 Rect.enc ([]:List Rect))]:Hp) (by kernel_rfl) (aG sZ rfl 8 rfl wz (gy 0 il ft 2 sz9 rfl rfl [(vS e),(vS h.1),(vI f.1),(vL eS z.2.2),(vI (w64 (a.1*5))),(vI (w64 ((w64 (a.1*5))+g.1))),(vI l.1),(gV M 4 ([]:List Rect)),(vS Ë.1)] rfl wz (af ?_)))
      obtain rfl:=ae F
      exact aY M trivial rfl (aJ rfl)
     ·refine aA rfl Ð (ai (aa (.ref (au 0) 0 0) ?_))
      obtain ⟨H,ï,F⟩:=bind_some F
      refine dQ 0 [0] il ft (fJ ï) rfl MK rfl (by kernel_rfl) (by kernel_rfl) (by kernel_rfl) (by kernel_rfl) (by kernel_rfl) (by kernel_rfl) (by kernel_rfl) (by decide) (by kernel_rfl) wz (vI H.1) (by kernel_rfl) ([((au 0),some (.cells 2 [(vL eI H.2.L),(vI H.2.f_at)])),(b,gB 9 Alert.enc c.1),(o,some (.cells 9 [(vS e),(vS h.1),(vI f.1),(vL eS z.2.2),(vI (w64 (a.1*5))),(vI (w64 ((w64 (a.1*5))+g.1))),(vI l.1),(gV M 4 ([]:List Rect)),(vS n.1)])),(M,gB 4 Rect.enc ([]:List Rect))]:Hp) (by kernel_rfl) (aa (vI 0) (af ?_))
      obtain ⟨ú,Ó,F⟩:=bind_some F
      obtain ⟨ä,Ó⟩:=aZ Ó
      refine iq (σ:=(List Rect)×(List Int)×Int) (N:=Nm) (λp=>(λ(C:(List Rect)×(List Int)×Int) (G:Nm)=>([(0,(.ref (au 0) 0 0)),(5,(gV b 9 c.1)),(8,(.ref o 0 0)),(15,(vL eS m)),(16,(vI (m.length:Int))),(17,(vI (u:Int)))]:SL_)) p.1 p.2) (λp=>(λ(C:(List Rect)×(List Int)×Int) (G:Nm)=>([((au 0),some (.cells 2 [(vL eI C.2.1),(vI C.2.2)])),(b,gB 9 Alert.enc c.1),(o,some (.cells 9 [(vS e),(vS h.1),(vI f.1),(vL eS z.2.2),(vI (w64 (a.1*5))),(vI (w64 ((w64 (a.1*5))+g.1))),(vI l.1),(gV G 4 C.1),(vS n.1)])),(G,gB 4 Rect.enc C.1)]:Hp)) p.1 p.2) (λ(X:Nat)=>(λp=>(λ(C:(List Rect)×(List Int)×Int) (G:Nm)=>([(0,(.ref (au 0) 0 0)),(5,(gV b 9 c.1)),(8,(.ref o 0 0)),(15,(vL eS m)),(16,(vI (m.length:Int))),(17,(vI (u:Int))),(82,(vI H.1)),(83,(vI (X:Int)))]:SL_)) p.1 p.2)) (λk x s=>dA k x s) ú (List.range (H.1).toNat) ((([]:List Rect),H.2.L,H.2.f_at),M) Ó rfl (aJ rfl) ?_ ?_
      ·rintro ⟨X,Õ,C,G⟩ ⟨Ä,Á⟩
       dsimp only at Ä Á
       cases Õ with
       | nil =>
        obtain rfl:=ae Ä
        refine ai (aa (vB (decide ((X:Int)<H.1))) (af ?_))
        refine ak (aA rfl (Cf Á) (bg ?_))
        exact aY (C,G) rfl rfl (aJ rfl)
       | cons û Õ =>
        obtain ⟨Ý,W,Ä⟩:=bind_some Ä
        refine ai (aa (vB (decide ((X:Int)<H.1))) (af ?_))
        refine ak (aB rfl (zR Á) (ax ?_))
        unfold dA at W
        refine ak (aM (bD (aG rZ rfl 7 rfl wz (aF 1 2 (.inr (by kernel_rfl)) (λ_ _ ag=>trivial) BZ FJ rfl rfl (gV G 4 C.1) rfl wz (aa (.ref (au 0) 0 0) ?_)))))
        obtain ⟨Z,ð,W⟩:=bind_some W
        refine dQ 3 [0] (.inr (by kernel_rfl)) (λ_ _ ag=>by exact⟨.inr (.inl (dis1 (QB ag (i:=0) (j:=2) rfl rfl (by decide)))),trivial⟩) (vv ð) rfl hb15 rfl (by kernel_rfl) (by kernel_rfl) (by kernel_rfl) (by kernel_rfl) (by kernel_rfl) (by kernel_rfl) (by kernel_rfl) (by decide) (by kernel_rfl) wz (.d (.agg (Rect.enc Z.1))) (by kernel_rfl) ([((au 0),some (.cells 2 [(vL eI Z.2.L),(vI Z.2.f_at)])),(b,gB 9 Alert.enc c.1),(o,some (.cells 9 [(vS e),(vS h.1),(vI f.1),(vL eS z.2.2),(vI (w64 (a.1*5))),(vI (w64 ((w64 (a.1*5))+g.1))),(vI l.1),(gV G 4 C.1),(vS n.1)])),(G,gB 4 Rect.enc C.1)]:Hp) (by kernel_rfl) (eD (([Z.1]:List Rect).map Rect.enc) BI QP rfl rfl rfl rfl rfl wz ?_)
        obtain ⟨Û,ò,W⟩:=bind_some W
        refine kY 5 (.inr (by kernel_rfl)) (λ_ _ ag=>⟨.inr (.inr (by kernel_rfl)),⟨.inr (.inr (by kernel_rfl)),trivial⟩⟩) (i:=3) FX FX qw z47 rfl (by decide) Qe (by decide) (λ_=>rfl) rfl rfl rfl ò wz (λÞ=>aG rZ rfl 7 rfl wz (gy 7 (.inr (by kernel_rfl)) (λ_ _ ag=>⟨.inr (.inr (by kernel_rfl)),⟨.inr (.inr (by kernel_rfl)),⟨.inr (.inr (by kernel_rfl)),trivial⟩⟩⟩) 2 BZ rfl rfl [(vS e),(vS h.1),(vI f.1),(vL eS z.2.2),(vI (w64 (a.1*5))),(vI (w64 ((w64 (a.1*5))+g.1))),(vI l.1),(gV Þ 4 Û),(vS n.1)] (Nw rfl) wz (af (av (fC (Cv Á ä) wz rfl (aa (vI ((X+1:Nat):Int)) (af ?_)))))))
        obtain rfl:=ae W
        exact bf (X+1,Õ,(Û,Z.2.L,Z.2.f_at),Þ) ⟨Ä,aW Á⟩ (ls_ _) rfl (aJ rfl)
      ·rintro ⟨C,G⟩ Å À Q w y
       subst Å
       obtain rfl:=ae F
       exact aY G trivial (pick_at [0,1,2,3,4,5] w rfl) (pre_at y (aJ rfl))
    ·rintro É _ À Q w y
     refine aN _ w y (ig 3 rfl (wH_coc 3 2 [(vS e),(vS h.1),(vI f.1),(vL eS z.2.2),(vI (w64 (a.1*5))),(vI (w64 ((w64 (a.1*5))+g.1))),(vI l.1),(vL Rect.enc A.1),(vS A.2.2.2)] rfl rfl (λS hS=>jk (rfl) (jk (rfl) (jk (rfl) (jk (rfl) (jk (rfl) (jk (rfl) (jk (rfl) (jk (hS) (jk (rfl) (rfl)))))))))) (av (aa (gV b 9 c.1) (aF 0 2 il ft mG tH rfl rfl (.d (.agg (Alert.enc (⟨e,h.1,f.1,z.2.2,(w64 (a.1*5)),(w64 ((w64 (a.1*5))+g.1)),l.1,A.1,A.2.2.2⟩:Alert)))) rfl wz (eD (([(⟨e,h.1,f.1,z.2.2,(w64 (a.1*5)),(w64 ((w64 (a.1*5))+g.1)),l.1,A.1,A.2.2.2⟩:Alert)]:List Alert).map Alert.enc) tF Qc rfl rfl rfl rfl rfl wz ?_))))))
     obtain ⟨Ü,ó,q⟩:=bind_some q
     refine kY 0 il ft (i:=1) el26 el26 mG z37 rfl (by decide) by37 (by decide) (λ_=>rfl) rfl rfl rfl ó wz (λß=>aa (gV ß 9 Ü) (af (av (fC (bG R â) wz rfl (aa (vI ((u+1:Nat):Int)) (af ?_))))))
     obtain rfl:=ae q
     exact bf (u+1,Ö,(Ü,A.2.1,A.2.2.1),ß) ⟨Â,aW R⟩ (ls_ _) rfl (aJ rfl)
 ·rintro ⟨c,b⟩ Å À Q w y
  subst Å
  refine aN _ w y (ai (aa (gV b 9 c.1) ?_))
  obtain ⟨Y,å,B⟩:=bind_some B
  obtain ⟨_,Æ,B⟩:=bind_some B
  replace Æ:=sV Æ
  refine ug 0 [] 1 0 il ft (kK å) rfl hb16 rfl rfl rfl (by kernel_rfl) rfl (.inl rfl) rfl (by kernel_rfl) (by kernel_rfl) (by kernel_rfl) (by kernel_rfl) rfl (by decide) (by kernel_rfl) rF (EG Æ) wz ([((au 0),some (.cells 2 [(vL eI c.2.1),(vI c.2.2)])),(b,gB 9 Alert.enc Y)]:Hp) (by kernel_rfl) (gD (v':=(gV b 9 Y)) 5 rfl (l6 Æ.symm) (gD (v':=(gV b 9 Y)) 98 rfl (l6 Æ.symm) (af (ai (aa (gV b 9 Y) (aa (gV b 9 Y) (af (ig 1 rfl (fT 4 1 rfl rfl (fT 5 1 rfl rfl (fT 98 1 rfl rfl (fT 100 1 rfl rfl ?_))))))))))))
  obtain rfl:=ae B
  exact ay (Ad (.inr rfl) [(vL Alert.enc Y)] _ [0] [au 0] ⟨rfl,trivial⟩ (.cons (jl rfl rfl) (.nil)) (by kernel_rfl) ⟨(by kernel_rfl),trivial⟩ (by decide) (by kernel_rfl))
theorem fU {e:ByteArray} {r:Bool} (g:kit_IsKey e=some r) :
  FnM Tryz.prog 73 [(vS e)] [] (vB r) []:=by
 refine FnM.of_wH ⟨Tryz.prog,48,[],[]⟩ rfl Tryz.func73 rfl rfl (lb_ rfl) (by kernel_rfl) ?_
 unfold kit_IsKey at g
 refine ai (aa (vB false) (af (ak (ai (aa (vI 0) (af ?_))))))
 obtain ⟨L,E,g⟩:=bind_some g
 obtain ⟨K,E⟩:=fe E
 refine iA (λ(c:Int)=>[(0,(vS e))]) (λ(c:Int)=>[]) (λ(l:Nat)=>(λ(c:Int)=>[(0,(vS e)),(3,(vI c))])) (λs=>jC e s) L K 0 E rfl (aJ rfl) ?_ ?_
 ·rintro ⟨l,c⟩ h
  dsimp only at h
  cases l with
  | zero=>cases h
  | succ l =>
   obtain ⟨N,f,h⟩:=bind_some h
   unfold jC at f
   refine ak (ai (aa (vI c) (aa (vS e) (oK un9 rfl wz (aa (vB (decide (c<(e.size:Int)))) (af ?_))))))
   rcases aj f with⟨m,f⟩|⟨m,f⟩
   ·refine aB rfl m (ax (ak (aM (ai (aa (vS e) (aa (vI c) ?_))))))
    obtain ⟨a,J,f⟩:=bind_some f
    refine xI un9 rfl rfl J wz (aa (.d (.int .u8 (a.toNat:Int))) (af (ak ?_)))
    obtain ⟨M,b,f⟩:=bind_some f
    refine aP [(0,(vS e)),(3,(vI c)),(40,(vB M))] [] ?_ ?_
    ·refine av (aa (.d (.int .u8 (a.toNat:Int))) (aa (vB (decide ((a.toNat:Int)>=97))) ?_))
     rcases aj b with⟨n,b⟩|⟨n,b⟩
     ·refine aC rfl n wz (aI (.d (.int .u8 (a.toNat:Int))) wa rfl (aI (vB (decide ((a.toNat:Int)<=122))) wa rfl (aa (vB (decide ((a.toNat:Int)<=122))) ?_)))
      rcases aj b with⟨o,b⟩|⟨o,b⟩
      ·refine aC rfl o wz (ah (ah (ah (bR (wn rfl rfl) (bR (wn rfl rfl) (bR (wn rfl rfl) (bR (wn rfl rfl) (bR (wn rfl rfl) (bR (wn rfl rfl) (bR (wn rfl rfl) (bR (wn rfl rfl) (bR (wn rfl rfl) (bR (wn rfl rfl) (bR (wn rfl rfl) (bR (wn rfl rfl) (bR (wn rfl rfl) (bR (wn rfl rfl) (ah (aa (vB true) (aa (vB false) (af ?_)))))))))))))))))))))
       obtain rfl:=ae b
       exact cu
      ·refine aC rfl o wz (aI (vI c) wa rfl (aI (vB (decide (c>0))) wa rfl ?_))
       rcases aj b with⟨p,b⟩|⟨p,b⟩
       ·refine aC rfl p wa (aI (.d (.int .u8 (a.toNat:Int))) wa rfl (aI (vB (decide ((a.toNat:Int)>=48))) wa rfl ?_))
        rcases aj b with⟨q,b⟩|⟨q,b⟩
        ·refine aC rfl q wa (aI (.d (.int .u8 (a.toNat:Int))) wa rfl (aI (vB (decide ((a.toNat:Int)<=57))) wa rfl (aI (vB (decide ((a.toNat:Int)<=57))) wa rfl ?_)))
         rcases aj b with⟨t,b⟩|⟨t,b⟩
         ·refine aC rfl t wa (ah (ah (aI (vB true) wa rfl (aI (vB true) wa rfl (ah (ah (aI (vB true) wa rfl (aI (vB true) wa rfl (aa (vB true) (aa (vB false) (af ?_)))))))))))
          obtain rfl:=ae b
          exact cu
         ·refine aC rfl t wa (aI (.d (.int .u8 (a.toNat:Int))) wa rfl (aI (vB ((a.toNat:Int)==45)) wa rfl (aI (vB ((a.toNat:Int)==45)) wa rfl ?_)))
          rcases aj b with⟨u,b⟩|⟨u,b⟩
          ·refine aC rfl u wa (ah (ah (aI (vB true) wa rfl (aI (vB true) wa rfl (aa (vB true) (aa (vB false) (af ?_)))))))
           obtain rfl:=ae b
           exact cu
          ·refine aC rfl u wa (aI (.d (.int .u8 (a.toNat:Int))) wa rfl (aI (vB ((a.toNat:Int)==95)) wa rfl (aI (vB ((a.toNat:Int)==95)) wa rfl (aI (vB ((a.toNat:Int)==95)) wa rfl (aa (vB ((a.toNat:Int)==95)) (aa (vB (!((a.toNat:Int)==95))) (af ?_)))))))
           obtain rfl:=ae b
           exact cu
        ·refine aC rfl q wa (ah (ah (aI (vB false) wa rfl (aI (vB false) wa rfl (aI (.d (.int .u8 (a.toNat:Int))) wa rfl (aI (vB ((a.toNat:Int)==45)) wa rfl (aI (vB ((a.toNat:Int)==45)) wa rfl ?_)))))))
         rcases aj b with⟨v,b⟩|⟨v,b⟩
         ·refine aC rfl v wa (ah (ah (aI (vB true) wa rfl (aI (vB true) wa rfl (aa (vB true) (aa (vB false) (af ?_)))))))
          obtain rfl:=ae b
          exact cu
         ·refine aC rfl v wa (aI (.d (.int .u8 (a.toNat:Int))) wa rfl (aI (vB ((a.toNat:Int)==95)) wa rfl (aI (vB ((a.toNat:Int)==95)) wa rfl (aI (vB ((a.toNat:Int)==95)) wa rfl (aa (vB ((a.toNat:Int)==95)) (aa (vB (!((a.toNat:Int)==95))) (af ?_)))))))
          obtain rfl:=ae b
          exact cu
       ·refine aC rfl p wa (ah (ah (ah (bR (wn rfl rfl) (bR (wn rfl rfl) (ah (ah (bR (wn rfl rfl) (bR (wn rfl rfl) (ah (ah (bR (wn rfl rfl) (bR (wn rfl rfl) (ah (aI (vB false) wa rfl (aa (vB false) (aa (vB true) (af ?_))))))))))))))))))
        obtain rfl:=ae b
        exact cu
     ·refine aC rfl n wz (ah (ah (aa (vB false) (aa (vB false) (aI (vI c) wa rfl (aI (vB (decide (c>0))) wa rfl ?_))))))
      rcases aj b with⟨w,b⟩|⟨w,b⟩
      ·refine aC rfl w wa (aI (.d (.int .u8 (a.toNat:Int))) wa rfl (aI (vB (decide ((a.toNat:Int)>=48))) wa rfl ?_))
       rcases aj b with⟨x,b⟩|⟨x,b⟩
       ·refine aC rfl x wa (aI (.d (.int .u8 (a.toNat:Int))) wa rfl (aI (vB (decide ((a.toNat:Int)<=57))) wa rfl (aI (vB (decide ((a.toNat:Int)<=57))) wa rfl ?_)))
        rcases aj b with⟨y,b⟩|⟨y,b⟩
        ·refine aC rfl y wa (ah (ah (aI (vB true) wa rfl (aI (vB true) wa rfl (ah (ah (aI (vB true) wa rfl (aI (vB true) wa rfl (aa (vB true) (aa (vB false) (af ?_)))))))))))
         obtain rfl:=ae b
         exact cu
        ·refine aC rfl y wa (aI (.d (.int .u8 (a.toNat:Int))) wa rfl (aI (vB ((a.toNat:Int)==45)) wa rfl (aI (vB ((a.toNat:Int)==45)) wa rfl ?_)))
         rcases aj b with⟨z,b⟩|⟨z,b⟩
         ·refine aC rfl z wa (ah (ah (aI (vB true) wa rfl (aI (vB true) wa rfl (aa (vB true) (aa (vB false) (af ?_)))))))
          obtain rfl:=ae b
          exact cu
         ·refine aC rfl z wa (aI (.d (.int .u8 (a.toNat:Int))) wa rfl (aI (vB ((a.toNat:Int)==95)) wa rfl (aI (vB ((a.toNat:Int)==95)) wa rfl (aI (vB ((a.toNat:Int)==95)) wa rfl (aa (vB ((a.toNat:Int)==95)) (aa (vB (!((a.toNat:Int)==95))) (af ?_)))))))
          obtain rfl:=ae b
          exact cu
       ·refine aC rfl x wa (ah (ah (aI (vB false) wa rfl (aI (vB false) wa rfl (aI (.d (.int .u8 (a.toNat:Int))) wa rfl (aI (vB ((a.toNat:Int)==45)) wa rfl (aI (vB ((a.toNat:Int)==45)) wa rfl ?_)))))))
        rcases aj b with⟨A,b⟩|⟨A,b⟩
        ·refine aC rfl A wa (ah (ah (aI (vB true) wa rfl (aI (vB true) wa rfl (aa (vB true) (aa (vB false) (af ?_)))))))
         obtain rfl:=ae b
         exact cu
        ·refine aC rfl A wa (aI (.d (.int .u8 (a.toNat:Int))) wa rfl (aI (vB ((a.toNat:Int)==95)) wa rfl (aI (vB ((a.toNat:Int)==95)) wa rfl (aI (vB ((a.toNat:Int)==95)) wa rfl (aa (vB ((a.toNat:Int)==95)) (aa (vB (!((a.toNat:Int)==95))) (af ?_)))))))
         obtain rfl:=ae b
         exact cu
      ·refine aC rfl w wa (ah (ah (ah (bR (wn rfl rfl) (bR (wn rfl rfl) (ah (ah (bR (wn rfl rfl) (bR (wn rfl rfl) (ah (ah (bR (wn rfl rfl) (bR (wn rfl rfl) (ah (aI (vB false) wa rfl (aa (vB false) (aa (vB true) (af ?_))))))))))))))))))
       obtain rfl:=ae b
       exact cu
    ·rintro ⟨⟩ _ G F j k
     refine aN _ j k ?_
     rcases aj f with⟨B,f⟩|⟨B,f⟩
     ·refine aB rfl B (ai (aa (vB false) (af ?_)))
      obtain rfl:=ae f
      obtain rfl:=ae h
      obtain rfl:=ae g
      exact ay (aK [(vB false)] ⟨rfl,trivial⟩)
     ·refine aA rfl B (ax (av (aa (vI c) (aa (vI (w64 (c+1))) (aa (vI (w64 (c+1))) (af ?_))))))
      obtain rfl:=ae f
      exact bf (l,(w64 (c+1))) h (ls_ _) rfl (aJ rfl)
   ·refine aA rfl m (bg ?_)
    obtain rfl:=ae f
    obtain rfl:=ae h
    exact aY (c) rfl rfl (aJ rfl)
 ·rintro c I G F j k
  subst I
  refine aN _ j k (ak ?_)
  obtain ⟨H,i,g⟩:=bind_some g
  refine aP [(2,(vB H))] [] ?_ ?_
  ·refine av (aa (vS e) (aa (vB (sNe e (⟨#[]⟩:ByteArray))) ?_))
   rcases aj i with⟨C,i⟩|⟨C,i⟩
   ·refine aC rfl C wz (aI (vS e) wa rfl (oK un9 rfl wa (aI (vB (decide ((e.size:Int)<=40))) wa rfl (aa (vB (decide ((e.size:Int)<=40))) (aa (vB (decide ((e.size:Int)<=40))) (af ?_))))))
    obtain rfl:=ae i
    exact cu
   ·refine aC rfl C wz (ah (ah (ah (aa (vB false) (aa (vB false) (af ?_))))))
    obtain rfl:=ae i
    exact cu
  ·rintro ⟨⟩ _ G F j k
   refine aN _ j k ?_
   obtain rfl:=ae g
   exact ay (aK [(vB H)] ⟨rfl,trivial⟩)
theorem bv {a:Int} {e:Int} {b:Int} {r:Bool} (d:aQ a e b=some r) :
  FnM Tryz.prog 52 [(vI a),(vI e),(vI b)] [] (vB r) []:=by
 refine FnM.of_wH ⟨Tryz.prog,15,[],[]⟩ rfl Tryz.func52 rfl rfl (lb_ rfl) (by kernel_rfl) ?_
 unfold aQ at d
 refine ai (aa (vB false) (af (ak ?_)))
 obtain ⟨g,c,d⟩:=bind_some d
 refine aP [(6,(vB g))] [] ?_ ?_
 ·refine av (aa (vI a) (aa (vI e) (aa (vB (decide (a<e))) ?_)))
  rcases aj c with⟨f,c⟩|⟨f,c⟩
  ·refine aC rfl f wz (ah (ah (ah (aa (vB true) (aa (vB true) (af ?_))))))
   obtain rfl:=ae c
   exact cu
  ·refine aC rfl f wz (aI (vI a) wa rfl (aI (vI b) wa rfl (aI (vB (decide (a>b))) wa rfl (aa (vB (decide (a>b))) (aa (vB (decide (a>b))) (af ?_))))))
   obtain rfl:=ae c
   exact cu
 ·rintro ⟨⟩ _ k j h i
  refine aN _ h i ?_
  obtain rfl:=ae d
  exact ay (aK [(vB g)] ⟨rfl,trivial⟩)
theorem zt {a:Alert} {r:Int} (c:fF a=some r) :
  FnM Tryz.prog 74 [(.d (.agg (Alert.enc a)))] [] (vI r) []:=by
 refine FnM.of_wH ⟨Tryz.prog,48,[],[]⟩ rfl Tryz.func74 rfl rfl (lb_ rfl) (by kernel_rfl) ?_
 unfold fF at c
 refine ai (iW 0 (.inl rfl) (Alert.v a) rfl rfl wz (λj=>aa (vI 0) (af (ak (ai (aG qG rfl 3 rfl wz (aF 0 0 il ft Ar Ep rfl rfl (vL eS a.Refs) rfl wz (bL ru rfl wz (aa (vB (decide ((a.Refs.length:Int)>20))) (af ?_))))))))))
 rcases aj c with⟨u,c⟩|⟨u,c⟩
 ·refine aB rfl u (ai (aa (vI 2) (af ?_)))
  obtain rfl:=ae c
  exact ay (aK [(vI 2)] ⟨rfl,trivial⟩)
 ·refine aA rfl u (ax (ak (ai (aG qG rfl 3 rfl wz (aF 0 0 il ft Ar Ep rfl rfl (vL eS a.Refs) rfl wz (bL ru rfl wz (aa (vI 0) (af ?_))))))))
  obtain ⟨I,w,c⟩:=bind_some c
  obtain ⟨E,w⟩:=aZ w
  refine dh (λ(l:Unit)=>[(1,(.ref j 0 0))]) (λ(l:Unit)=>[(j,some (.cells 9 (Alert.v a)))]) (λ(e:Nat)=>(λ(l:Unit)=>[(1,(.ref j 0 0)),(10,(vL eS a.Refs)),(11,(vI (a.Refs.length:Int))),(12,(vI (e:Int)))])) (λk x s=>dx a k x s) I a.Refs () w rfl (aJ rfl) ?_ ?_
  ·rintro ⟨e,A,l⟩ ⟨g,i⟩
   dsimp only at g i
   cases A with
   | nil =>
    obtain rfl:=ae g
    refine ai (aa (vB (decide ((e:Int)<(a.Refs.length:Int)))) (af ?_))
    refine ak (aA rfl (drop_nil i) (bg ?_))
    exact aY (l) rfl rfl (aJ rfl)
   | cons f A =>
    obtain ⟨L,b,g⟩:=bind_some g
    refine ai (aa (vB (decide ((e:Int)<(a.Refs.length:Int)))) (af ?_))
    refine ak (aB rfl (bz i) (ax ?_))
    unfold dx at b
    refine ak (aM (ai (aa (vI (e:Int)) (dC mI rfl rfl (bI i) rfl wz (bC sz9 ag9 rfl (vS f) rfl wz (aa (vI (e:Int)) (aa (vS f) (af (aM (ai (aa (vS f) ?_)))))))))))
    obtain ⟨B,G,b⟩:=bind_some b
    refine aD (fU G) rfl Fw rfl rfl rfl rfl wz (aa (vB (!B)) (aa (vB (!B)) (af ?_)))
    rcases aj b with⟨n,b⟩|⟨n,b⟩
    ·refine aB rfl n (ai (aa (vI 5) (af ?_)))
     obtain rfl:=ae b
     obtain rfl:=ae g
     obtain rfl:=ae c
     exact ay (aK [(vI 5)] ⟨rfl,trivial⟩)
    ·refine aA rfl n (ak ?_)
     obtain ⟨K,h,b⟩:=bind_some b
     refine aP [(1,(.ref j 0 0)),(4,(vS f)),(10,(vL eS a.Refs)),(11,(vI (a.Refs.length:Int))),(12,(vI (e:Int))),(21,(vB K))] [(j,some (.cells 9 (Alert.v a)))] ?_ ?_
     ·refine av (aa (vI (e:Int)) (aa (vB (decide ((e:Int)>0))) ?_))
      rcases aj h with⟨o,h⟩|⟨o,h⟩
      ·refine aC rfl o wz (aI (vS f) wa rfl (aG qG rfl 3 rfl wa (aF 0 0 il ft Ar Ep rfl rfl (vL eS a.Refs) rfl wa (aI (vI (e:Int)) wa rfl (aI (vI (w64 ((e:Int)-1))) wa rfl ?_)))))
       obtain ⟨m,H,h⟩:=bind_some h
       refine dC mI rfl rfl H rfl wa (bC sz9 ag9 rfl (vS m) rfl wa (aI (vB (sLe f m)) wa rfl (aa (vB (sLe f m)) (aa (vB (sLe f m)) (af ?_)))))
       obtain rfl:=ae h
       exact cu
      ·refine aC rfl o wz (ah (ah (ah (ah (ah (ah (ah (ah (aa (vB false) (aa (vB false) (af ?_)))))))))))
       obtain rfl:=ae h
       exact cu
     ·rintro ⟨⟩ _ J C y z
      refine aN _ y z ?_
      rcases aj b with⟨p,b⟩|⟨p,b⟩
      ·refine aB rfl p (ai (aa (vI 7) (af ?_)))
       obtain rfl:=ae b
       obtain rfl:=ae g
       obtain rfl:=ae c
       exact ay (aK [(vI 7)] ⟨rfl,trivial⟩)
      ·refine aA rfl p (ai (aa (vS f) (aG uz rfl 0 rfl wz (aF 0 0 il ft sz9 ag9 rfl rfl (vS a.Id) rfl wz (aa (vB (sEq f a.Id)) (aa (vB (sEq f a.Id)) (af ?_)))))))
       rcases aj b with⟨q,b⟩|⟨q,b⟩
       ·refine aB rfl q (ai (aa (vI 14) (af ?_)))
        obtain rfl:=ae b
        obtain rfl:=ae g
        obtain rfl:=ae c
        exact ay (aK [(vI 14)] ⟨rfl,trivial⟩)
       ·refine aA rfl q (ax (av (fC (bG i E) wz rfl (aa (vI ((e+1:Nat):Int)) (af ?_)))))
        obtain rfl:=ae b
        exact bf (e+1,A,()) ⟨g,aW i⟩ (ls_ _) rfl (aJ rfl)
  ·rintro l F J C y z
   subst F
   refine aN _ y z (ak (ai (aG Aa rfl 2 rfl wz (aF 0 0 il ft sz3 ag3 rfl rfl (vI a.Kind) rfl wz (aa (vB (a.Kind==1)) (aG qG rfl 3 rfl wz (aF 0 0 il ft Ar Ep rfl rfl (vL eS a.Refs) rfl wz (bL ru rfl wz (aa (vB ((a.Refs.length:Int)==0)) (QI un4 rfl rfl wz (af ?_)))))))))))
   rcases aj c with⟨t,c⟩|⟨t,c⟩
   ·refine aB rfl t (ai (aa (vI 3) (af ?_)))
    obtain rfl:=ae c
    exact ay (aK [(vI 3)] ⟨rfl,trivial⟩)
   ·refine aA rfl t (ax (ai (aa (vI 0) (af ?_))))
    obtain rfl:=ae c
    exact ay (aK [(vI 0)] ⟨rfl,trivial⟩)
theorem iI {a:Int} {r:Bool} (c:cZ a=some r) :
  FnM Tryz.prog 57 [(vI a)] [] (vB r) []:=by
 refine FnM.of_wH ⟨Tryz.prog,9,[],[]⟩ rfl Tryz.func57 rfl rfl (lb_ rfl) (by kernel_rfl) ?_
 unfold cZ at c
 refine ai (aa (vB false) (af (ak ?_)))
 obtain ⟨e,b,c⟩:=bind_some c
 refine aP [(2,(vB e))] [] ?_ ?_
 ·refine av (aa (vI a) (aa (vB (decide (a>=0))) ?_))
  rcases aj b with⟨d,b⟩|⟨d,b⟩
  ·refine aC rfl d wz (aI (vI a) wa rfl (aI (vB (decide (a<345686400000))) wa rfl (aa (vB (decide (a<345686400000))) (aa (vB (decide (a<345686400000))) (af ?_)))))
   obtain rfl:=ae b
   exact cu
  ·refine aC rfl d wz (ah (ah (aa (vB false) (aa (vB false) (af ?_)))))
   obtain rfl:=ae b
   exact cu
 ·rintro ⟨⟩ _ i h f g
  refine aN _ f g ?_
  obtain rfl:=ae c
  exact ay (aK [(vB e)] ⟨rfl,trivial⟩)
theorem qP {b:Rect} {r:Int} (a:gP b=some r) :
  FnM Tryz.prog 75 [(.d (.agg (Rect.enc b)))] [] (vI r) []:=by
 refine FnM.of_wH ⟨Tryz.prog,25,[],[]⟩ rfl Tryz.func75 rfl rfl (lb_ rfl) (by kernel_rfl) ?_
 unfold gP at a
 refine ai (iW 0 (.inl rfl) (Rect.v b) rfl rfl wz (λl=>aa (vI 0) (af (ak (ak ?_)))))
 obtain ⟨x,e,a⟩:=bind_some a
 refine aP [(1,(.ref l 0 0)),(10,(vB x))] [(l,some (.cells 4 (Rect.v b)))] ?_ ?_
 ·refine av (aG xw rfl 0 rfl wz (aF 0 0 il ft sz3 ag3 rfl rfl (vI b.X) rfl wz ?_))
  obtain ⟨z,p,e⟩:=bind_some e
  refine aD (bv p) rfl rU rfl rfl rfl rfl wz ?_
  rcases aj e with⟨i,e⟩|⟨i,e⟩
  ·refine aC rfl i wz (ah (ah (ah (aa (vB true) (af ?_)))))
   obtain rfl:=ae e
   exact cu
  ·refine aC rfl i wz (aG uu rfl 1 rfl wa (aF 0 0 il ft sz3 ag3 rfl rfl (vI b.Y) rfl wa ?_))
   obtain ⟨t,q,e⟩:=bind_some e
   refine aD (bv q) rfl rU rfl rfl rfl rfl wa (aa (vB t) (af ?_))
   obtain rfl:=ae e
   exact cu
 ·rintro ⟨⟩ _ u m j k
  refine aN _ j k ?_
  rcases aj a with⟨f,a⟩|⟨f,a⟩
  ·refine aB rfl f (ai (aa (vI 1) (af ?_)))
   obtain rfl:=ae a
   exact ay (aK [(vI 1)] ⟨rfl,trivial⟩)
  ·refine aA rfl f (ax (ak (ak ?_)))
   obtain ⟨w,c,a⟩:=bind_some a
   refine aP [(24,(vB w))] [(l,some (.cells 4 (Rect.v b)))] ?_ ?_
   ·refine av (aG BH rfl 2 rfl wz (aF 0 0 il ft sz3 ag3 rfl rfl (vI b.W) rfl wz (aG xw rfl 0 rfl wz (aF 0 0 il ft sz3 ag3 rfl rfl (vI b.X) rfl wz (aa (vI (w64 (100000-b.X))) ?_)))))
    obtain ⟨y,n,c⟩:=bind_some c
    refine aD (bv n) rfl rU rfl rfl rfl rfl wz ?_
    rcases aj c with⟨g,c⟩|⟨g,c⟩
    ·refine aC rfl g wz (ah (ah (ah (ah (ah (ah (aa (vB true) (af ?_))))))))
     obtain rfl:=ae c
     exact cu
    ·refine aC rfl g wz (aG zx rfl 3 rfl wa (aF 0 0 il ft sz3 ag3 rfl rfl (vI b.H) rfl wa (aG uu rfl 1 rfl wa (aF 0 0 il ft sz3 ag3 rfl rfl (vI b.Y) rfl wa (aI (vI (w64 (100000-b.Y))) wa rfl ?_)))))
     obtain ⟨s,o,c⟩:=bind_some c
     refine aD (bv o) rfl rU rfl rfl rfl rfl wa (aa (vB s) (af ?_))
     obtain rfl:=ae c
     exact cu
   ·rintro ⟨⟩ _ u m j k
    refine aN _ j k ?_
    rcases aj a with⟨h,a⟩|⟨h,a⟩
    ·refine aB rfl h (ai (aa (vI 1) (af ?_)))
     obtain rfl:=ae a
     exact ay (aK [(vI 1)] ⟨rfl,trivial⟩)
    ·refine aA rfl h (ax (ai (aa (vI 0) (af ?_))))
     obtain rfl:=ae a
     exact ay (aK [(vI 0)] ⟨rfl,trivial⟩)
theorem qZ {x0:ByteArray} {r:Bool} (a:gX x0=some r) :
  FnM Tryz.prog 109 [(vS x0)] [] (vB r) [] :=
 Q7 rfl Tryz.utf8_ValidString Pn a
theorem Dk {x0:ByteArray} {x1:ByteArray} {r:ByteArray} (a:qW x0 x1=some r) :
  FnM Tryz.prog 110 [(vS x0),(vS x1)] [] (vS r) [] :=
 P5 rfl Tryz.strings_Trim_ascii  a
theorem yS {x0:ByteArray} {x1:ByteArray} {r:Bool} (a:strings_Contains x0 x1=some r) :
  FnM Tryz.prog 111 [(vS x0),(vS x1)] [] (vB r) [] :=
 Kg Tryz.strings_Contains De a
theorem Et {a:ByteArray} {r:Bool} (f:iX a=some r) :
  FnM Tryz.prog 76 [(vS a)] [] (vB r) []:=by
 refine FnM.of_wH ⟨Tryz.prog,33,[],[]⟩ rfl Tryz.func76 rfl rfl (lb_ rfl) (by kernel_rfl) ?_
 unfold iX at f
 refine ai (aa (vB false) (af (ak (ai (aa (vI 0) (af ?_))))))
 obtain ⟨H,p,f⟩:=bind_some f
 obtain ⟨G,p⟩:=fe p
 refine iA (λ(c:Int)=>[(0,(vS a))]) (λ(c:Int)=>[]) (λ(j:Nat)=>(λ(c:Int)=>[(0,(vS a)),(3,(vI c))])) (λs=>fD a s) H G 0 p rfl (aJ rfl) ?_ ?_
 ·rintro ⟨j,c⟩ g
  dsimp only at g
  cases j with
  | zero=>cases g
  | succ j =>
   obtain ⟨J,d,g⟩:=bind_some g
   unfold fD at d
   refine ak (ai (aa (vI c) (aa (vS a) (oK un9 rfl wz (aa (vB (decide (c<(a.size:Int)))) (af ?_))))))
   rcases aj d with⟨k,d⟩|⟨k,d⟩
   ·refine aB rfl k (ax (ak (aM (ak ?_))))
    obtain ⟨I,e,d⟩:=bind_some d
    refine aP [(0,(vS a)),(3,(vI c)),(19,(vB I))] [] ?_ ?_
    ·refine av (aa (vS a) (aa (vI c) ?_))
     obtain ⟨y,E,e⟩:=bind_some e
     refine xI un9 rfl rfl E wz (aa (vB (decide ((y.toNat:Int)<32))) ?_)
     rcases aj e with⟨l,e⟩|⟨l,e⟩
     ·refine aC rfl l wz (ah (ah (ah (ah (aa (vB true) (af ?_))))))
      obtain rfl:=ae e
      exact cu
     ·refine aC rfl l wz (aI (vS a) wa rfl (aI (vI c) wa rfl ?_))
      obtain ⟨u,F,e⟩:=bind_some e
      refine xI un9 rfl rfl F wa (aI (vB ((u.toNat:Int)==127)) wa rfl (aa (vB ((u.toNat:Int)==127)) (af ?_)))
      obtain rfl:=ae e
      exact cu
    ·rintro ⟨⟩ _ w t h i
     refine aN _ h i ?_
     rcases aj d with⟨m,d⟩|⟨m,d⟩
     ·refine aB rfl m (ai (aa (vB false) (af ?_)))
      obtain rfl:=ae d
      obtain rfl:=ae g
      obtain rfl:=ae f
      exact ay (aK [(vB false)] ⟨rfl,trivial⟩)
     ·refine aA rfl m (ax (av (aa (vI c) (aa (vI (w64 (c+1))) (aa (vI (w64 (c+1))) (af ?_))))))
      obtain rfl:=ae d
      exact bf (j,(w64 (c+1))) g (ls_ _) rfl (aJ rfl)
   ·refine aA rfl k (bg ?_)
    obtain rfl:=ae d
    obtain rfl:=ae g
    exact aY (c) rfl rfl (aJ rfl)
 ·rintro c z w t h i
  subst z
  refine aN _ h i (ak ?_)
  obtain ⟨x,b,f⟩:=bind_some f
  refine aP [(2,(vB x))] [] ?_ ?_
  ·refine av (aa (vS a) ?_)
   obtain ⟨K,A,b⟩:=bind_some b
   refine aD (qZ A) rfl hb109 rfl rfl rfl rfl wz ?_
   rcases aj b with⟨n,b⟩|⟨n,b⟩
   ·refine aC rfl n wz (aI (vS a) wa rfl ?_)
    obtain ⟨v,B,b⟩:=bind_some b
    refine aD (Dk B) rfl hb110 rfl rfl rfl rfl wa (aI (vS a) wa rfl (aI (vB (sEq v a)) wa rfl (aa (vB (sEq v a)) ?_)))
    rcases aj b with⟨o,b⟩|⟨o,b⟩
    ·refine aC rfl o wz (aI (vS a) wa rfl ?_)
     obtain ⟨q,C,b⟩:=bind_some b
     refine aD (yS C) rfl hb111 rfl rfl rfl rfl wa (aI (vB (!q)) wa rfl (aa (vB (!q)) (aa (vB (!q)) (af ?_))))
     obtain rfl:=ae b
     exact cu
    ·refine aC rfl o wz (ah (ah (ah (aa (vB false) (aa (vB false) (af ?_))))))
     obtain rfl:=ae b
     exact cu
   ·refine aC rfl n wz (ah (ah (ah (ah (aa (vB false) (aa (vB false) (ah (ah (ah (aa (vB false) (aa (vB false) (af ?_))))))))))))
    obtain rfl:=ae b
    exact cu
  ·rintro ⟨⟩ _ w t h i
   refine aN _ h i ?_
   obtain rfl:=ae f
   exact ay (aK [(vB x)] ⟨rfl,trivial⟩)
end Go.Proofs.YtljhfffghjclfabGreatDoor.Law

