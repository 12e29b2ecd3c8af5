/-
 The machine computes these plain functions (written by a program of ours).
-/
import Derived.Test.YtadpbmfnnlkdlacGreatDoorFacts
import Derived.Test.YtadpbmfnnlkdlacGreatDoorDefs
open Go Go.Eng Go.Proofs
namespace Go.Proofs.YtadpbmfnnlkdlacGreatDoor.Law
set_option maxRecDepth 100000
set_option linter.unusedVariables false
set_option maxHeartbeats 1000000
theorem zz {h:Int} {b:Int} {r:Int} (a:ve h b=some r) :
  FnM Tryz.prog 66 [(vI h),(vI b)] [] (vI r) []:=by
 refine FnM.of_wH ⟨Tryz.prog,16,[],[]⟩ rfl Tryz.func66 rfl rfl (lb_ rfl) (by kernel_rfl) ?_
 unfold ve at a
 refine ai (aa (vI 0) (ah (ak (ai (aa (vI b) (aa (vB (decide (b<1))) (ah ?_)))))))
 rcases aj a with⟨f,a⟩|⟨f,a⟩
 ·refine aA rfl f (ai (aa (vI 0) (ah ?_)))
  obtain rfl:=ae a
  exact aB (aM [(vI 0)] ⟨rfl,trivial⟩)
 ·refine ay rfl f (av (ai (aa (vI h) (aa (vI b) ?_))))
  obtain ⟨c,k,a⟩:=bind_some a
  refine SQ rfl rfl k wz (aa (vI c) (ah (ak (ai (aa (vI c) (aa (vB (decide (c<0))) (ah ?_)))))))
  obtain ⟨e,d,a⟩:=bind_some a
  refine aR [(0,(vI e))] [] ?_ ?_
  ·rcases aj d with⟨g,d⟩|⟨g,d⟩
   ·refine aA rfl g (au (aa (vI c) (aa (vI b) (aa (vI (w64 (c+b))) (aa (vI (w64 (c+b))) (ah ?_))))))
    obtain rfl:=ae d
    exact cu
   ·refine ay rfl g (av ?_)
    obtain rfl:=ae d
    exact cu
  ·rintro ⟨⟩ _ m l i j
   refine aN _ i j (ai (aa (vI e) (aa (vI e) (ah ?_))))
   obtain rfl:=ae a
   exact aB (aM [(vI e)] ⟨rfl,trivial⟩)
theorem lG {a:Stream} {d:Int} {r:Int×Stream} (b:jd a d=some r) :
  FnM Tryz.prog 29 [(.ref (ax 0) 0 0),(vI d)] [(.cells 2 [(vL eI a.L),(vI a.f_at)])] (vI r.1) [some (.cells 2 [(vL eI r.2.L),(vI r.2.f_at)])]:=by
 refine FnM.of_wH ⟨Tryz.prog,64,[],[]⟩ rfl Tryz.func29 rfl rfl (lb_ rfl) (by kernel_rfl) ?_
 unfold jd at b
 refine ai (aa (vI 0) (ah (ai (aa (.ref (ax 0) 0 0) (aa (.ref (ax 0) 0 0) (aH IB rfl 1 rfl wz (aC 0 0 il ft sz3 ag3 rfl rfl (vI a.f_at) rfl wz (aa (vI (w64 (a.f_at+1))) (aa (.ref (ax 0) 0 0) (aH IB rfl 1 rfl wz (gp 0 il ft 0 sz3 rfl rfl [(vL eI a.L),(vI (w64 (a.f_at+1)))] rfl wz (ah (ak (ai (aa (.ref (ax 0) 0 0) (aa (.ref (ax 0) 0 0) (aH KJ rfl 0 rfl wz (aC 0 0 il ft P5 PP rfl rfl (vL eI a.L) rfl wz (bJ zL rfl wz (aa (vB ((a.L.length:Int)==0)) (ah ?_)))))))))))))))))))))
 rcases aj b with⟨f,b⟩|⟨f,b⟩
 ·refine aA rfl f (ai (aa (.ref (ax 0) 0 0) (aa (.ref (ax 0) 0 0) (aH IB rfl 1 rfl wz (aC 0 0 il ft sz3 ag3 rfl rfl (vI (w64 (a.f_at+1))) rfl wz (aa (vI (w64 ((w64 (a.f_at+1))*7919))) (aa (vI d) ?_)))))))
  obtain ⟨h,k,b⟩:=bind_some b
  refine aD (zz k) rfl hb66 rfl rfl rfl rfl wz (aa (vI h) (ah ?_))
  obtain rfl:=ae b
  exact aB (Bf (.inr rfl) [(vI h)] _ [0] [ax 0] ⟨rfl,trivial⟩ (.cons (kX rfl rfl) (.nil)) (by kernel_rfl) ⟨(by kernel_rfl),trivial⟩ (by decide) (by kernel_rfl))
 ·refine ay rfl f (av (ak (bv (aa (.ref (ax 0) 0 0) (aa (.ref (ax 0) 0 0) (aH IB rfl 1 rfl wz (aC 3 0 (.inr (by kernel_rfl)) (λ_ _ ag=>trivial) sz3 ag3 rfl rfl (vI (w64 (a.f_at+1))) rfl wz (aa (vI (w64 ((w64 (a.f_at+1))-1))) (aa (.ref (ax 0) 0 0) (aa (.ref (ax 0) 0 0) (aH KJ rfl 0 rfl wz (aC 8 0 (.inr (by kernel_rfl)) (λ_ _ ag=>⟨.inl ⟨rfl,rfl⟩,trivial⟩) P5 PP rfl rfl (vL eI a.L) rfl wz (bJ zL rfl wz ?_)))))))))))))
  obtain ⟨c,m,b⟩:=bind_some b
  refine SQ rfl rfl m wz (aa (vI c) (ah (ak (bv (aa (.ref (ax 0) 0 0) (aa (.ref (ax 0) 0 0) (aH IB rfl 1 rfl wz (aC 3 0 (.inr (by kernel_rfl)) (λ_ _ ag=>trivial) sz3 ag3 rfl rfl (vI (w64 (a.f_at+1))) rfl wz (aa (vI (w64 ((w64 (a.f_at+1))-1))) (aa (.ref (ax 0) 0 0) (aa (.ref (ax 0) 0 0) (aH KJ rfl 0 rfl wz (aC 8 0 (.inr (by kernel_rfl)) (λ_ _ ag=>⟨.inl ⟨rfl,rfl⟩,trivial⟩) P5 PP rfl rfl (vL eI a.L) rfl wz (bJ zL rfl wz ?_))))))))))))))
  obtain ⟨e,n,b⟩:=bind_some b
  refine SA rfl rfl n wz (aa (vI e) (ah (aN (H0:=([((ax 0),some (.cells 2 [(vL eI a.L),(vI (w64 (a.f_at+1)))]))]:Hp)) ([(0,(.ref (ax 0) 0 0)),(1,(vI d)),(5,(vI c)),(6,(vI e))]:SL_) (by kernel_rfl) (yN (by kernel_rfl)) (ai (aa (.ref (ax 0) 0 0) (aa (.ref (ax 0) 0 0) (aH KJ rfl 0 rfl wz (aC 0 0 il ft P5 PP rfl rfl (vL eI a.L) rfl wz (aa (vI c) ?_)))))))))
  obtain ⟨p,l,b⟩:=bind_some b
  refine dK nZ rfl rfl l rfl wz (bK sz3 ag3 rfl (vI p) rfl wz ?_)
  obtain ⟨o,i,b⟩:=bind_some b
  refine aD (zz i) rfl hb66 rfl rfl rfl rfl wz (aa (vI e) (aa (vI c) (aa (vI (w64 (7919+c))) (aa (vI (w64 (e*(w64 (7919+c))))) (aa (vI (w64 (o+(w64 (e*(w64 (7919+c))))))) (aa (vI d) ?_))))))
  obtain ⟨g,j,b⟩:=bind_some b
  refine aD (zz j) rfl hb66 rfl rfl rfl rfl wz (aa (vI g) (ah ?_))
  obtain rfl:=ae b
  exact aB (Bf (.inr rfl) [(vI g)] _ [0] [ax 0] ⟨rfl,trivial⟩ (.cons (kX rfl rfl) (.nil)) (by kernel_rfl) ⟨(by kernel_rfl),trivial⟩ (by decide) (by kernel_rfl))
theorem dJ {f:Stream} {a:Int} {c:Int} {r:Int×Stream} (b:cZ f a c=some r) :
  FnM Tryz.prog 22 [(.ref (ax 0) 0 0),(vI a),(vI c)] [(.cells 2 [(vL eI f.L),(vI f.f_at)])] (vI r.1) [some (.cells 2 [(vL eI r.2.L),(vI r.2.f_at)])]:=by
 refine FnM.of_wH ⟨Tryz.prog,19,[],[]⟩ rfl Tryz.func22 rfl rfl (lb_ rfl) (by kernel_rfl) ?_
 unfold cZ at b
 refine ai (aa (vI 0) (ah (ak (ai (aa (vI c) (aa (vI a) (aa (vB (decide (c<a))) (ah ?_))))))))
 rcases aj b with⟨e,b⟩|⟨e,b⟩
 ·refine aA rfl e (ai (aa (vI a) (aa (vI a) (ah ?_))))
  obtain rfl:=ae b
  exact aB (Bf (.inr rfl) [(vI a)] _ [0] [ax 0] ⟨rfl,trivial⟩ (.cons (kX rfl rfl) (.nil)) (by kernel_rfl) ⟨(by kernel_rfl),trivial⟩ (by decide) (by kernel_rfl))
 ·refine ay rfl e (av (ai (aa (vI a) (aa (.ref (ax 0) 0 0) (aa (vI c) (aa (vI a) (aa (vI (w64 (c-a))) (aa (vI (w64 ((w64 (c-a))+1))) ?_))))))))
  obtain ⟨d,g,b⟩:=bind_some b
  refine dG 0 [0] il ft (lG g) rfl QZ rfl (by kernel_rfl) (by kernel_rfl) (by kernel_rfl) (by kernel_rfl) (by kernel_rfl) (by kernel_rfl) (by kernel_rfl) (by decide) (by kernel_rfl) wz (vI d.1) (by kernel_rfl) ([((ax 0),some (.cells 2 [(vL eI d.2.L),(vI d.2.f_at)]))]:Hp) (by kernel_rfl) (aa (vI (w64 (a+d.1))) (aa (vI (w64 (a+d.1))) (ah ?_)))
  obtain rfl:=ae b
  exact aB (Bf (.inr rfl) [(vI (w64 (a+d.1)))] _ [0] [ax 0] ⟨rfl,trivial⟩ (.cons (kX rfl rfl) (.nil)) (by kernel_rfl) ⟨(by kernel_rfl),trivial⟩ (by decide) (by kernel_rfl))
theorem lI {d:Stream} {b:(List ByteArray)} {r:ByteArray×Stream} (a:iG d b=some r) :
  FnM Tryz.prog 23 [(.ref (ax 0) 0 0),(vL eS b)] [(.cells 2 [(vL eI d.L),(vI d.f_at)])] (vS r.1) [some (.cells 2 [(vL eI r.2.L),(vI r.2.f_at)])]:=by
 refine FnM.of_wH ⟨Tryz.prog,12,[],[]⟩ rfl Tryz.func23 rfl rfl (lb_ rfl) (by kernel_rfl) ?_
 unfold iG at a
 refine ai (aa (vS (⟨#[]⟩:ByteArray)) (ah (ai (aa (vL eS b) (aa (.ref (ax 0) 0 0) (aa (vL eS b) (bJ wY rfl wz ?_)))))))
 obtain ⟨c,f,a⟩:=bind_some a
 refine dG 0 [0] il ft (lG f) rfl QZ rfl (by kernel_rfl) (by kernel_rfl) (by kernel_rfl) (by kernel_rfl) (by kernel_rfl) (by kernel_rfl) (by kernel_rfl) (by decide) (by kernel_rfl) wz (vI c.1) (by kernel_rfl) ([((ax 0),some (.cells 2 [(vL eI c.2.L),(vI c.2.f_at)]))]:Hp) (by kernel_rfl) ?_
 obtain ⟨e,g,a⟩:=bind_some a
 refine dK qo rfl rfl g rfl wz (bK sz9 ag9 rfl (vS e) rfl wz (aa (vS e) (ah ?_)))
 obtain rfl:=ae a
 exact aB (Bf (.inr rfl) [(vS e)] _ [0] [ax 0] ⟨rfl,trivial⟩ (.cons (kX rfl rfl) (.nil)) (by kernel_rfl) ⟨(by kernel_rfl),trivial⟩ (by decide) (by kernel_rfl))
theorem nS {d:Stream} {b:(List Int)} {r:Int×Stream} (a:jM d b=some r) :
  FnM Tryz.prog 24 [(.ref (ax 0) 0 0),(vL eI b)] [(.cells 2 [(vL eI d.L),(vI d.f_at)])] (vI r.1) [some (.cells 2 [(vL eI r.2.L),(vI r.2.f_at)])]:=by
 refine FnM.of_wH ⟨Tryz.prog,12,[],[]⟩ rfl Tryz.func24 rfl rfl (lb_ rfl) (by kernel_rfl) ?_
 unfold jM at a
 refine ai (aa (vI 0) (ah (ai (aa (vL eI b) (aa (.ref (ax 0) 0 0) (aa (vL eI b) (bJ zL rfl wz ?_)))))))
 obtain ⟨c,f,a⟩:=bind_some a
 refine dG 0 [0] il ft (lG f) rfl QZ rfl (by kernel_rfl) (by kernel_rfl) (by kernel_rfl) (by kernel_rfl) (by kernel_rfl) (by kernel_rfl) (by kernel_rfl) (by decide) (by kernel_rfl) wz (vI c.1) (by kernel_rfl) ([((ax 0),some (.cells 2 [(vL eI c.2.L),(vI c.2.f_at)]))]:Hp) (by kernel_rfl) ?_
 obtain ⟨e,g,a⟩:=bind_some a
 refine dK nZ rfl rfl g rfl wz (bK sz3 ag3 rfl (vI e) rfl wz (aa (vI e) (ah ?_)))
 obtain rfl:=ae a
 exact aB (Bf (.inr rfl) [(vI e)] _ [0] [ax 0] ⟨rfl,trivial⟩ (.cons (kX rfl rfl) (.nil)) (by kernel_rfl) ⟨(by kernel_rfl),trivial⟩ (by decide) (by kernel_rfl))
theorem lF {d:Stream} {c:Int} {r:Bool×Stream} (b:jf d c=some r) :
  FnM Tryz.prog 25 [(.ref (ax 0) 0 0),(vI c)] [(.cells 2 [(vL eI d.L),(vI d.f_at)])] (vB r.1) [some (.cells 2 [(vL eI r.2.L),(vI r.2.f_at)])]:=by
 refine FnM.of_wH ⟨Tryz.prog,9,[],[]⟩ rfl Tryz.func25 rfl rfl (lb_ rfl) (by kernel_rfl) ?_
 unfold jf at b
 refine ai (aa (vB false) (ah (ai (aa (.ref (ax 0) 0 0) (aa (vI c) ?_)))))
 obtain ⟨a,e,b⟩:=bind_some b
 refine dG 0 [0] il ft (lG e) rfl QZ rfl (by kernel_rfl) (by kernel_rfl) (by kernel_rfl) (by kernel_rfl) (by kernel_rfl) (by kernel_rfl) (by kernel_rfl) (by decide) (by kernel_rfl) wz (vI a.1) (by kernel_rfl) ([((ax 0),some (.cells 2 [(vL eI a.2.L),(vI a.2.f_at)]))]:Hp) (by kernel_rfl) (aa (vB (a.1==0)) (aa (vB (a.1==0)) (ah ?_)))
 obtain rfl:=ae b
 exact aB (Bf (.inr rfl) [(vB (a.1==0))] _ [0] [ax 0] ⟨rfl,trivial⟩ (.cons (kX rfl rfl) (.nil)) (by kernel_rfl) ⟨(by kernel_rfl),trivial⟩ (by decide) (by kernel_rfl))
theorem yR {h:Stream} {r:Rect×Stream} (a:ko h=some r) :
  FnM Tryz.prog 26 [(.ref (ax 0) 0 0)] [(.cells 2 [(vL eI h.L),(vI h.f_at)])] (.d (.agg (Rect.enc r.1))) [some (.cells 2 [(vL eI r.2.L),(vI r.2.f_at)])]:=by
 refine FnM.of_wH ⟨Tryz.prog,12,[],[]⟩ rfl Tryz.func26 rfl rfl (lb_ rfl) (by kernel_rfl) ?_
 unfold ko at a
 refine ai (bZ 0 (.inl rfl) z42 rfl wz (λg=>ah (ai (aa (.ref (ax 0) 0 0) ?_))))
 obtain ⟨c,k,a⟩:=bind_some a
 refine dG 0 [0] il ft (dJ k) rfl Gs rfl (by kernel_rfl) (by kernel_rfl) (by kernel_rfl) (by kernel_rfl) (by kernel_rfl) (by kernel_rfl) (by kernel_rfl) (by decide) (by kernel_rfl) wz (vI c.1) (by kernel_rfl) ([((ax 0),some (.cells 2 [(vL eI c.2.L),(vI c.2.f_at)])),(g,some (.cells 4 [(vI 0),(vI 0),(vI 0),(vI 0)]))]:Hp) (by kernel_rfl) (aa (.ref (ax 0) 0 0) ?_)
 obtain ⟨e,l,a⟩:=bind_some a
 refine dG 0 [0] il ft (dJ l) rfl Gs rfl (by kernel_rfl) (by kernel_rfl) (by kernel_rfl) (by kernel_rfl) (by kernel_rfl) (by kernel_rfl) (by kernel_rfl) (by decide) (by kernel_rfl) wz (vI e.1) (by kernel_rfl) ([((ax 0),some (.cells 2 [(vL eI e.2.L),(vI e.2.f_at)])),(g,some (.cells 4 [(vI 0),(vI 0),(vI 0),(vI 0)]))]:Hp) (by kernel_rfl) (aa (.ref (ax 0) 0 0) ?_)
 obtain ⟨f,i,a⟩:=bind_some a
 refine dG 0 [0] il ft (dJ i) rfl Gs rfl (by kernel_rfl) (by kernel_rfl) (by kernel_rfl) (by kernel_rfl) (by kernel_rfl) (by kernel_rfl) (by kernel_rfl) (by decide) (by kernel_rfl) wz (vI f.1) (by kernel_rfl) ([((ax 0),some (.cells 2 [(vL eI f.2.L),(vI f.2.f_at)])),(g,some (.cells 4 [(vI 0),(vI 0),(vI 0),(vI 0)]))]:Hp) (by kernel_rfl) (aa (.ref (ax 0) 0 0) ?_)
 obtain ⟨b,j,a⟩:=bind_some a
 refine dG 0 [0] il ft (dJ j) rfl Gs rfl (by kernel_rfl) (by kernel_rfl) (by kernel_rfl) (by kernel_rfl) (by kernel_rfl) (by kernel_rfl) (by kernel_rfl) (by decide) (by kernel_rfl) wz (vI b.1) (by kernel_rfl) ([((ax 0),some (.cells 2 [(vL eI b.2.L),(vI b.2.f_at)])),(g,some (.cells 4 [(vI 0),(vI 0),(vI 0),(vI 0)]))]:Hp) (by kernel_rfl) (aJ (.d (.agg (Rect.enc (⟨c.1,e.1,f.1,b.1⟩:Rect)))) wz (by kernel_rfl) (gp 0 il ft 1 rV rfl rfl [(vI c.1),(vI e.1),(vI f.1),(vI b.1)] rfl wz (ah ?_)))
 obtain rfl:=ae a
 exact aB (Bf (.inr rfl) [(.d (.agg (Rect.enc (⟨c.1,e.1,f.1,b.1⟩:Rect))))] _ [0] [ax 0] ⟨⟨1,_,_,_,_,_,_,_,rfl,rfl,rV,Ed,rfl⟩,trivial⟩ (.cons (kX rfl rfl) (.nil)) (by kernel_rfl) ⟨(by kernel_rfl),trivial⟩ (by decide) (by kernel_rfl))
theorem DL {a:Alert} {b:Alert} {r:Int} (c:nJ a b=some r) :
  FnM Tryz.prog 28 [(.d (.agg (Alert.enc a))),(.d (.agg (Alert.enc b)))] [] (vI r) []:=by
 refine FnM.of_wH ⟨Tryz.prog,20,[],[]⟩ rfl Tryz.func28 rfl rfl (lb_ rfl) (by kernel_rfl) ?_
 unfold nJ at c
 refine ai (eT 0 (.inl rfl) (Alert.v a) rfl rfl wz (λg=>eT 0 (.inl rfl) (Alert.v b) rfl rfl wz (λh=>aa (vI 0) (ah (ak (ai (aH lg rfl 4 rfl wz (aC 0 0 il ft sz3 ag3 rfl rfl (vI a.At) rfl wz (aH lg rfl 4 rfl wz (aC 0 1 il ft sz3 ag3 rfl rfl (vI b.At) rfl wz (aa (vB (a.At != b.At)) (ah ?_))))))))))))
 rcases aj c with⟨e,c⟩|⟨e,c⟩
 ·refine aA rfl e (ai (aH lg rfl 4 rfl wz (aC 0 0 il ft sz3 ag3 rfl rfl (vI a.At) rfl wz (aH lg rfl 4 rfl wz (aC 0 1 il ft sz3 ag3 rfl rfl (vI b.At) rfl wz (aa (vI (w64 (a.At-b.At))) (aa (vI (w64 (a.At-b.At))) (ah ?_))))))))
  obtain rfl:=ae c
  exact aB (aM [(vI (w64 (a.At-b.At)))] ⟨rfl,trivial⟩)
 ·refine ay rfl e (av (ak (ai (aH kZ rfl 0 rfl wz (aC 0 0 il ft sz9 ag9 rfl rfl (vS a.Id) rfl wz (aH kZ rfl 0 rfl wz (aC 0 1 il ft sz9 ag9 rfl rfl (vS b.Id) rfl wz (aa (vB (sLt a.Id b.Id)) (ah ?_)))))))))
  rcases aj c with⟨f,c⟩|⟨f,c⟩
  ·refine aA rfl f (ai (aa (vI (-1)) (ah ?_)))
   obtain rfl:=ae c
   exact aB (aM [(vI (-1))] ⟨rfl,trivial⟩)
  ·refine ay rfl f (av (ai (aa (vI 1) (ah ?_))))
   obtain rfl:=ae c
   exact aB (aM [(vI 1)] ⟨rfl,trivial⟩)
theorem Ca {k:Int} {r:Int} (a:uE k=some r) :
  FnM Tryz.prog 106 [(.d (.int .u64 k))] [] (vI r) []:=by
 refine FnM.of_wH ⟨Tryz.prog,25,[],[]⟩ rfl Tryz.func106 rfl rfl (lb_ rfl) (by kernel_rfl) ?_
 unfold uE at a
 refine ai (aa (vI 0) (ah (ak (ai (aa (.d (.int .u64 k)) (aa (vB (decide (k>=4294967296))) (ah ?_)))))))
 obtain ⟨b,f,a⟩:=bind_some a
 refine aR [(0,(.d (.int .u64 b.1))),(2,(vI b.2))] [] ?_ ?_
 ·rcases aj f with⟨n,f⟩|⟨n,f⟩
  ·refine aA rfl n (ai (aa (.d (.int .u64 k)) ?_))
   obtain ⟨y,v,f⟩:=bind_some f
   refine OA rfl rfl v wz (aa (.d (.int .u64 y)) (ah (au (aa (vI 32) (ah ?_)))))
   obtain rfl:=ae f
   exact cu
  ·refine ay rfl n (av ?_)
   obtain rfl:=ae f
   exact cu
 ·rintro ⟨⟩ _ q p i j
  refine aN _ i j (ak (ai (aa (.d (.int .u64 b.1)) (aa (vB (decide (b.1>=65536))) (ah ?_)))))
  obtain ⟨c,g,a⟩:=bind_some a
  refine aR [(0,(.d (.int .u64 c.1))),(2,(vI c.2))] [] ?_ ?_
  ·rcases aj g with⟨o,g⟩|⟨o,g⟩
   ·refine aA rfl o (ai (aa (.d (.int .u64 b.1)) ?_))
    obtain ⟨w,t,g⟩:=bind_some g
    refine OA rfl rfl t wz (aa (.d (.int .u64 w)) (ah (au (aa (vI b.2) (aa (vI (w64 (b.2+16))) (aa (vI (w64 (b.2+16))) (ah ?_)))))))
    obtain rfl:=ae g
    exact cu
   ·refine ay rfl o (av ?_)
    obtain rfl:=ae g
    exact cu
  ·rintro ⟨⟩ _ q p i j
   refine aN _ i j (ak (ai (aa (.d (.int .u64 c.1)) (aa (vB (decide (c.1>=256))) (ah ?_)))))
   obtain ⟨h,e,a⟩:=bind_some a
   refine aR [(0,(.d (.int .u64 h.1))),(2,(vI h.2))] [] ?_ ?_
   ·rcases aj e with⟨m,e⟩|⟨m,e⟩
    ·refine aA rfl m (ai (aa (.d (.int .u64 c.1)) ?_))
     obtain ⟨x,u,e⟩:=bind_some e
     refine OA rfl rfl u wz (aa (.d (.int .u64 x)) (ah (au (aa (vI c.2) (aa (vI (w64 (c.2+8))) (aa (vI (w64 (c.2+8))) (ah ?_)))))))
     obtain rfl:=ae e
     exact cu
    ·refine ay rfl m (av ?_)
     obtain rfl:=ae e
     exact cu
   ·rintro ⟨⟩ _ q p i j
    refine aN _ i j (ai (aa (vI h.2) (aa (.d (.int .u64 h.1)) (zH un173 un5 rfl wz ?_))))
    obtain ⟨l,s,a⟩:=bind_some a
    refine yM un9 rfl rfl s wz (zH un5 un3 rfl wz (aa (vI (w64 (h.2+(w64 (l.toNat:Int))))) (aa (vI (w64 (h.2+(w64 (l.toNat:Int))))) (ah ?_))))
    obtain rfl:=ae a
    exact aB (aM [(vI (w64 (h.2+(w64 (l.toNat:Int)))))] ⟨rfl,trivial⟩)
theorem o9 {b:Int} {r:Int} (a:iI b=some r) :
  FnM Tryz.prog 65 [(.d (.int .u64 b))] [] (vI r) []:=by
 refine FnM.of_wH ⟨Tryz.prog,8,[],[]⟩ rfl Tryz.func65 rfl rfl (lb_ rfl) (by kernel_rfl) ?_
 unfold iI at a
 refine ai (aa (vI 0) (ah (ak (ay rfl rfl (av (ai (aa (.d (.int .u64 b)) ?_)))))))
 obtain ⟨c,e,a⟩:=bind_some a
 refine aD (Ca e) rfl hb106 rfl rfl rfl rfl wz (aa (vI c) (ah ?_))
 obtain rfl:=ae a
 exact aB (aM [(vI c)] ⟨rfl,trivial⟩)
theorem mP {k:(List Alert)} {f:Int} {h:Int} {r:(List Alert)} (p:fZ k f h=some r) :
  FnM Tryz.prog 97 [(dV (ax 0) 9 k),(vI f),(vI h),(.fn 28 [])] (([]:List Box)++gI 9 Alert.enc k) (.tup []) (([]:List Box).map some++gT k (gB 9 Alert.enc r)):=by
 refine FnM.of_wHv ⟨Tryz.prog,53,[],[]⟩ rfl Tryz.func97 rfl rfl (lb_ rfl) (by kernel_rfl) ?_
 unfold fZ at p
 refine ai (aa (vI f) (aa (vI (w64 (f+1))) (aa (vI (w64 (f+1))) (ah ?_))))
 obtain ⟨Z,y,p⟩:=bind_some p
 obtain ⟨Y,y⟩:=dF y
 refine eU (λ(c:(List Alert)×Int)=>[]) (λ(c:(List Alert)×Int)=>[((ax 0),gB 9 Alert.enc c.1)]) (λ(u:Nat)=>(λ(c:(List Alert)×Int)=>[(0,(dV (ax 0) 9 c.1)),(1,(vI f)),(2,(vI h)),(3,(.fn 28 [])),(8,(vI c.2))])) (λs=>fu h f s) Z Y (k,(w64 (f+1))) y rfl (aG rfl) ?_ ?_
 ·rintro ⟨u,c⟩ l
  dsimp only at l
  cases u with
  | zero=>cases l
  | succ u =>
   obtain ⟨L,j,l⟩:=bind_some l
   unfold fu at j
   refine ak (ai (aa (vI c.2) (aa (vI h) (aa (vB (decide (c.2<h))) (ah ?_)))))
   rcases aj j with⟨v,j⟩|⟨v,j⟩
   ·refine aA rfl v (av (ak (aK (ai (aa (vI c.2) (aa (vI c.2) (ah ?_)))))))
    obtain ⟨À,z,j⟩:=bind_some j
    obtain ⟨X,z⟩:=dF z
    refine eU (λ(a:(List Alert)×Int)=>[(0,(dV (ax 0) 9 a.1)),(1,(vI f)),(2,(vI h)),(3,(.fn 28 [])),(8,(vI c.2))]) (λ(a:(List Alert)×Int)=>[((ax 0),gB 9 Alert.enc a.1)]) (λ(t:Nat)=>(λ(a:(List Alert)×Int)=>[(0,(dV (ax 0) 9 a.1)),(1,(vI f)),(2,(vI h)),(3,(.fn 28 [])),(8,(vI c.2)),(9,(vI a.2))])) (λs=>fe f s) À X (c.1,c.2) z rfl (aG rfl) ?_ ?_
    ·rintro ⟨t,a⟩ m
     dsimp only at m
     cases t with
     | zero=>cases m
     | succ t =>
      obtain ⟨L,b,m⟩:=bind_some m
      unfold fe at b
      refine ak (ak ?_)
      obtain ⟨Á,e,b⟩:=bind_some b
      refine aR [(0,(dV (ax 0) 9 a.1)),(1,(vI f)),(2,(vI h)),(3,(.fn 28 [])),(8,(vI c.2)),(9,(vI a.2)),(34,(vB Á))] [((ax 0),gB 9 Alert.enc a.1)] ?_ ?_
      ·refine bv (aa (vI a.2) (aa (vI f) (aa (vB (decide (a.2>f))) ?_)))
       rcases aj e with⟨w,e⟩|⟨w,e⟩
       ·refine aF rfl w wz (aJ (.fn 28 []) wa rfl (aJ (dV (ax 0) 9 a.1) wa rfl (aJ (vI a.2) wa rfl ?_)))
        obtain ⟨_,C,e⟩:=bind_some e
        refine iZ mH rfl rfl (gN C) (dP C) wa ?_
        obtain ⟨M,P,e⟩:=bind_some e
        refine jm 8 0 (.inr (by kernel_rfl)) (λ_ _ ag=>trivial) fJ jZ rfl rfl P (.d (.agg (Alert.enc M))) rfl wa (aJ (dV (ax 0) 9 a.1) wa rfl (aJ (vI a.2) wa rfl (aJ (vI (w64 (a.2-1))) wa rfl ?_)))
        obtain ⟨_,E,e⟩:=bind_some e
        refine iZ mH rfl rfl (gN E) (dP E) wa ?_
        obtain ⟨N,Q,e⟩:=bind_some e
        refine jm 13 0 (.inr (by kernel_rfl)) (λ_ _ ag=>⟨.inl ⟨rfl,rfl⟩,trivial⟩) fJ jZ rfl rfl Q (.d (.agg (Alert.enc N))) rfl wa ?_
        obtain ⟨J,O,e⟩:=bind_some e
        refine aD (DL O) rfl hb28 rfl rfl rfl rfl wa (aJ (vB (decide (J<0))) wa rfl (aa (vB (decide (J<0))) (ah ?_)))
        obtain rfl:=ae e
        exact cu
       ·refine aF rfl w wz (af (af (af (af (af (af (af (af (af (af (af (af (aa (vB false) (ah ?_))))))))))))))
        obtain rfl:=ae e
        exact cu
      ·rintro ⟨⟩ _ K B q n
       refine aN _ q n ?_
       rcases aj b with⟨x,b⟩|⟨x,b⟩
       ·refine aA rfl x (av (ak (aK (bv (aa (dV (ax 0) 9 a.1) (aa (vI a.2) (aa (dV (ax 0) 9 a.1) (aa (vI a.2) (aa (vI (w64 (a.2-1))) (aa (dV (ax 0) 9 a.1) (aa (vI a.2) (aa (vI (w64 (a.2-1))) ?_))))))))))))
        obtain ⟨_,F,b⟩:=bind_some b
        refine iZ mH rfl rfl (gN F) (dP F) wz ?_
        obtain ⟨g,R,b⟩:=bind_some b
        refine jm 9 0 (.inr (by kernel_rfl)) (λ_ _ ag=>trivial) fJ jZ rfl rfl R (.d (.agg (Alert.enc g))) rfl wz (aa (dV (ax 0) 9 a.1) (aa (vI a.2) ?_))
        obtain ⟨_,G,b⟩:=bind_some b
        refine iZ mH rfl rfl (gN G) (dP G) wz ?_
        obtain ⟨i,T,b⟩:=bind_some b
        refine jm 13 0 (.inr (by kernel_rfl)) (λ_ _ ag=>⟨.inl ⟨rfl,rfl⟩,trivial⟩) fJ jZ rfl rfl T (.d (.agg (Alert.enc i))) rfl wz ?_
        obtain ⟨_,H,b⟩:=bind_some b
        refine iZ mH rfl rfl (gN H) (dP H) wz ?_
        obtain ⟨Â,U,b⟩:=bind_some b
        refine pR 15 (.inr (by kernel_rfl)) (λ_ _ ag=>⟨.inr (.inr (by kernel_rfl)),⟨.inr (.inr (by kernel_rfl)),trivial⟩⟩) 0 fJ rfl rfl U g rfl wz (bT (v':=(dV (ax 0) 9 (a.1.set (0+(a.2).toNat) g))) 0 rfl (bP (by simp)) (bT (v':=(dV (ax 0) 9 (a.1.set (0+(a.2).toNat) g))) 37 rfl (bP (by simp)) (bT (v':=(dV (ax 0) 9 (a.1.set (0+(a.2).toNat) g))) 39 rfl (bP (by simp)) (bT (v':=(dV (ax 0) 9 (a.1.set (0+(a.2).toNat) g))) 42 rfl (bP (by simp)) (bT (v':=(dV (ax 0) 9 (a.1.set (0+(a.2).toNat) g))) 47 rfl (bP (by simp)) ?_)))))
        obtain ⟨_,I,b⟩:=bind_some b
        refine iZ mH rfl rfl (gN I) (dP I) wz ?_
        obtain ⟨Ã,W,b⟩:=bind_some b
        refine pR 17 (.inr (by kernel_rfl)) (λ_ _ ag=>⟨.inr (.inr (by kernel_rfl)),⟨.inr (.inr (by kernel_rfl)),⟨.inr (.inr (by kernel_rfl)),trivial⟩⟩⟩) 0 fJ rfl rfl W i rfl wz (bT (v':=(dV (ax 0) 9 ((a.1.set (0+(a.2).toNat) g).set (0+((w64 (a.2-1))).toNat) i))) 0 rfl (bP (by simp)) (bT (v':=(dV (ax 0) 9 ((a.1.set (0+(a.2).toNat) g).set (0+((w64 (a.2-1))).toNat) i))) 37 rfl (bP (by simp)) (bT (v':=(dV (ax 0) 9 ((a.1.set (0+(a.2).toNat) g).set (0+((w64 (a.2-1))).toNat) i))) 39 rfl (bP (by simp)) (bT (v':=(dV (ax 0) 9 ((a.1.set (0+(a.2).toNat) g).set (0+((w64 (a.2-1))).toNat) i))) 42 rfl (bP (by simp)) (bT (v':=(dV (ax 0) 9 ((a.1.set (0+(a.2).toNat) g).set (0+((w64 (a.2-1))).toNat) i))) 47 rfl (bP (by simp)) (ah (au (aa (vI a.2) (aa (vI (w64 (a.2-1))) (aa (vI (w64 (a.2-1))) (ah ?_)))))))))))
        obtain rfl:=ae b
        exact aV (t,(((a.1.set (0+(a.2).toNat) g).set (0+((w64 (a.2-1))).toNat) i),(w64 (a.2-1)))) m (ls_ _) rfl (aG rfl)
       ·refine ay rfl x (aX ?_)
        obtain rfl:=ae b
        obtain rfl:=ae m
        exact aU ((a.1,a.2)) rfl rfl (aG rfl)
    ·rintro a A K B q n
     subst A
     refine aN _ q n (au (aa (vI c.2) (aa (vI (w64 (c.2+1))) (aa (vI (w64 (c.2+1))) (ah ?_)))))
     obtain rfl:=ae j
     exact aV (u,(a.1,(w64 (c.2+1)))) l (ls_ _) rfl (aG rfl)
   ·refine ay rfl v (aX ?_)
    obtain rfl:=ae j
    obtain rfl:=ae l
    exact aU ((c.1,c.2)) rfl rfl (aG rfl)
 ·rintro c A K B q n
  subst A
  show pI _ _ _ _ _ _ _ _
  obtain rfl:=ae p
  exact nV (H0:=([((ax 0),gB 9 Alert.enc c.1)]:Hp)) (sl':=envS []) n (uY (bs:=([]:List Box)) (os:=([]:List Box)) (xs:=k) (o:=gB 9 Alert.enc c.1) (.inl rfl) [] trivial rfl rfl rfl rfl rfl (by kernel_rfl) jN rfl)
theorem pu {a:(List Alert)} {c:Int} {d:Int} {e:Int} {r:(List Alert)} (f:iR a c d e=some r) :
  FnM Tryz.prog 64 [(dV (ax 0) 9 a),(vI c),(vI d),(vI e),(.fn 28 [])] (([]:List Box)++gI 9 Alert.enc a) (.tup []) (([]:List Box).map some++gT a (gB 9 Alert.enc r)):=by
 refine FnM.of_wHv ⟨Tryz.prog,148,[],[]⟩ rfl Tryz.func64 rfl rfl (lb_ rfl) (by kernel_rfl) ?_
 unfold iR at f
 refine ai (aa (vB true) (ah (ai (aa (vB true) (ah ?_)))))
 obtain ⟨v,m,f⟩:=bind_some f
 obtain ⟨u,m⟩:=dF m
 refine eU (λ(j:Unit)=>[]) (λ(j:Unit)=>[((ax 0),gB 9 Alert.enc a)]) (λ(n:Nat)=>(λ(j:Unit)=>[(0,(dV (ax 0) 9 a)),(1,(vI c)),(2,(vI d)),(3,(vI e)),(4,(.fn 28 [])),(10,(vB true)),(11,(vB true))])) (λs=>gU d c a e s) v u () m rfl (aG rfl) ?_ ?_
 ·rintro ⟨n,j⟩ g
  dsimp only at g
  cases n with
  | zero=>cases g
  | succ n =>
   obtain ⟨x,b,g⟩:=bind_some g
   unfold gU at b
   refine aK (ai (aa (vI d) (aa (vI c) (aa (vI (w64 (d-c))) (aa (vI (w64 (d-c))) (ah (ak (ai (aa (vI (w64 (d-c))) (aa (vB (decide ((w64 (d-c))<=12))) (ah ?_)))))))))))
   rcases aj b with⟨k,b⟩|⟨k,b⟩
   ·refine aA rfl k (ai (aa (dV (ax 0) 9 a) (aa (vI c) (aa (vI d) (aa (.fn 28 []) ?_)))))
    obtain ⟨i,t,b⟩:=bind_some b
    obtain ⟨_,h,b⟩:=bind_some b
    replace h:=jQ h
    refine kC 0 [] 0 0 il ft (mP t) rfl hb97 rfl rfl rfl (by kernel_rfl) rfl (.inr (.inl rfl)) rfl (by kernel_rfl) (by kernel_rfl) (by kernel_rfl) (by kernel_rfl) rfl (by decide) (by kernel_rfl) jN (tV h) wz ([((ax 0),gB 9 Alert.enc i)]:Hp) (by kernel_rfl) (bT (v':=(dV (ax 0) 9 i)) 0 rfl (bP h.symm) (bT (v':=(dV (ax 0) 9 i)) 26 rfl (bP h.symm) (ah ?_)))
    obtain rfl:=ae b
    obtain rfl:=ae g
    obtain rfl:=ae f
    exact aB (uY (bs:=([]:List Box)) (os:=([]:List Box)) (xs:=a) (o:=gB 9 Alert.enc i) (.inr rfl) [] trivial rfl rfl rfl rfl rfl (by kernel_rfl) jN rfl)
   ·refine ay rfl k (av (ak (ai (aa (vI e) (aa (vB (e==0)) (ah ?_))))))
    rcases aj b with⟨l,b⟩|⟨l,b⟩
    ·refine aA rfl l (ai (aa (dV (ax 0) 9 a) (aa (vI c) (aa (vI d) (aa (.fn 28 []) ?_)))))
     cases b
    ·refine ay rfl l (av (ak (ai (aa (vB true) (aa (vB false) (ah (ay rfl rfl (av (ai (aa (dV (ax 0) 9 a) (aa (vI c) (aa (vI d) (aa (.fn 28 []) ?_)))))))))))))
     cases b
 ·rintro j p z w y q
  subst p
  show pI _ _ _ _ _ _ _ _
  obtain rfl:=ae f
  exact nV (H0:=([((ax 0),gB 9 Alert.enc a)]:Hp)) (sl':=envS []) q (uY (bs:=([]:List Box)) (os:=([]:List Box)) (xs:=a) (o:=gB 9 Alert.enc a) (.inl rfl) [] trivial rfl rfl rfl rfl rfl (by kernel_rfl) jN rfl)
theorem nD {a:(List Alert)} {r:(List Alert)} (b:dn a=some r) :
  FnM Tryz.prog 27 [(dV (ax 0) 9 a),(.fn 28 [])] (([]:List Box)++gI 9 Alert.enc a) (.tup []) (([]:List Box).map some++gT a (gB 9 Alert.enc r)):=by
 refine FnM.of_wHv ⟨Tryz.prog,14,[],[]⟩ rfl Tryz.func27 rfl rfl (lb_ rfl) (by kernel_rfl) ?_
 unfold dn at b
 refine ai (aa (dV (ax 0) 9 a) (wZ uS rfl wz (aa (vI (a.length:Int)) (ah (au (aa (dV (ax 0) 9 a) (aa (vI (a.length:Int)) (aa (vI (a.length:Int)) (zH un3 JO rfl wz ?_)))))))))
 obtain ⟨g,e,b⟩:=bind_some b
 refine aD (o9 e) rfl hb65 rfl rfl rfl rfl wz (aa (.fn 28 []) ?_)
 obtain ⟨d,f,b⟩:=bind_some b
 obtain ⟨_,c,b⟩:=bind_some b
 replace c:=jQ c
 refine kC 0 [] 0 0 il ft (pu f) rfl hb64 rfl rfl rfl (by kernel_rfl) rfl (.inr (.inl rfl)) rfl (by kernel_rfl) (by kernel_rfl) (by kernel_rfl) (by kernel_rfl) rfl (by decide) (by kernel_rfl) jN (tV c) wz ([((ax 0),gB 9 Alert.enc d)]:Hp) (by kernel_rfl) (bT (v':=(dV (ax 0) 9 d)) 0 rfl (bP c.symm) (bT (v':=(dV (ax 0) 9 d)) 5 rfl (bP c.symm) (bT (v':=(dV (ax 0) 9 d)) 7 rfl (bP c.symm) (ah ?_))))
 show pI _ _ _ _ _ _ _ _
 obtain rfl:=ae b
 exact uY (bs:=([]:List Box)) (os:=([]:List Box)) (xs:=a) (o:=gB 9 Alert.enc d) (.inl rfl) [] trivial rfl rfl rfl rfl rfl (by kernel_rfl) jN rfl
theorem pV {Ù:Stream} {Ø:Int} {r:(List Alert)×Stream} (B:fU Ù Ø=some r) :
  FnM Tryz.prog 4 [(.ref (ax 0) 0 0),(vI Ø)] [(.cells 2 [(vL eI Ù.L),(vI Ù.f_at)])] (vL Alert.enc r.1) [some (.cells 2 [(vL eI r.2.L),(vI r.2.f_at)])]:=by
 refine FnM.of_wH ⟨Tryz.prog,101,[],[]⟩ rfl Tryz.func4 rfl rfl (lb_ rfl) (by kernel_rfl) ?_
 unfold fU at B
 refine ai (aa .nil (ah (ai (aa .nil (ah (ak (ai (dW (([(⟨#[97,97]⟩:ByteArray),(⟨#[97,98]⟩:ByteArray),(⟨#[97,99]⟩:ByteArray),(⟨#[97,100]⟩:ByteArray),(⟨#[97,101]⟩:ByteArray),(⟨#[97,102]⟩:ByteArray)]:List ByteArray).map eS) qo Cc rfl rfl rfl rfl rfl wz (aa (.ref (ax 0) 0 0) (aa (vI Ø) ?_))))))))))
 obtain ⟨È,ì,B⟩:=bind_some B
 refine dG 0 [0] il ft (dJ ì) rfl Gs rfl (by kernel_rfl) (by kernel_rfl) (by kernel_rfl) (by kernel_rfl) (by kernel_rfl) (by kernel_rfl) (by kernel_rfl) (by decide) (by kernel_rfl) wz (vI È.1) (by kernel_rfl) ([((ax 0),some (.cells 2 [(vL eI È.2.L),(vI È.2.f_at)]))]:Hp) (by kernel_rfl) ?_
 obtain ⟨m,ñ,B⟩:=bind_some B
 refine FI wY sz9 (λ_=>rfl) rfl rfl ñ wz (bJ wY rfl wz (aa (vI 0) (ah (jl (λõ => ?_)))))
 obtain ⟨ø,Ñ,B⟩:=bind_some B
 obtain ⟨â,Ñ⟩:=aS Ñ
 refine gq (σ:=(List Alert)×(List Int)×Int) (N:=Nm) (λp=>(λ(c:(List Alert)×(List Int)×Int) (b:Nm)=>([(5,(gV b 9 c.1))]:SL_)) p.1 p.2) (λp=>(λ(c:(List Alert)×(List Int)×Int) (b:Nm)=>([((ax 0),some (.cells 2 [(vL eI c.2.1),(vI c.2.2)])),(b,gB 9 Alert.enc c.1)]:Hp)) p.1 p.2) (λ(u:Nat)=>(λp=>(λ(c:(List Alert)×(List Int)×Int) (b:Nm)=>([(0,(.ref (ax 0) 0 0)),(5,(gV b 9 c.1)),(15,(vL eS m)),(16,(vI (m.length:Int))),(17,(vI (u:Int)))]:SL_)) p.1 p.2)) (λk x s=>fO k x s) ø m ((([]:List Alert),È.2.L,È.2.f_at),õ) Ñ rfl (aG rfl) ?_ ?_
 ·rintro ⟨u,Ö,c,b⟩ ⟨Â,R⟩
  dsimp only at Â R
  cases Ö with
  | nil =>
   obtain rfl:=ae Â
   refine ai (aa (vB (decide ((u:Int)<(m.length:Int)))) (ah ?_))
   refine ak (ay rfl (drop_nil R) (aX ?_))
   exact aU (c,b) rfl rfl (aG rfl)
  | cons e Ö =>
   obtain ⟨Ý,q,Â⟩:=bind_some Â
   refine ai (aa (vB (decide ((u:Int)<(m.length:Int)))) (ah ?_))
   refine ak (aA rfl (aZ R) (av ?_))
   unfold fO at q
   refine ak (aK (ai (dK qo rfl rfl (bz R) rfl wz (bK sz9 ag9 rfl (vS e) rfl wz (aa (vS e) (ah (ai (aa (vS e) (aa (.ref (ax 0) 0 0) (dW (([(⟨#[119,120]⟩:ByteArray),(⟨#[119,120]⟩:ByteArray),(⟨#[102,105,114,101]⟩:ByteArray)]:List ByteArray).map eS) qo Cc rfl rfl rfl rfl rfl wz ?_))))))))))
   obtain ⟨h,æ,q⟩:=bind_some q
   refine dG 0 [0] il ft (lI æ) rfl Sg rfl (by kernel_rfl) (by kernel_rfl) (by kernel_rfl) (by kernel_rfl) (by kernel_rfl) (by kernel_rfl) (by kernel_rfl) (by decide) (by kernel_rfl) wz (vS h.1) (by kernel_rfl) ([((ax 0),some (.cells 2 [(vL eI h.2.L),(vI h.2.f_at)])),(b,gB 9 Alert.enc c.1)]:Hp) (by kernel_rfl) (aa (.ref (ax 0) 0 0) (dW (([1,1,2,2,3]:List Int).map eI) nZ BI rfl rfl rfl rfl rfl wz ?_))
   obtain ⟨f,ç,q⟩:=bind_some q
   refine dG 0 [0] il ft (nS ç) rfl hb24 rfl (by kernel_rfl) (by kernel_rfl) (by kernel_rfl) (by kernel_rfl) (by kernel_rfl) (by kernel_rfl) (by kernel_rfl) (by decide) (by kernel_rfl) wz (vI f.1) (by kernel_rfl) ([((ax 0),some (.cells 2 [(vL eI f.2.L),(vI f.2.f_at)])),(b,gB 9 Alert.enc c.1)]:Hp) (by kernel_rfl) (aa (.ref (ax 0) 0 0) ?_)
   obtain ⟨a,è,q⟩:=bind_some q
   refine dG 0 [0] il ft (dJ è) rfl Gs rfl (by kernel_rfl) (by kernel_rfl) (by kernel_rfl) (by kernel_rfl) (by kernel_rfl) (by kernel_rfl) (by kernel_rfl) (by decide) (by kernel_rfl) wz (vI a.1) (by kernel_rfl) ([((ax 0),some (.cells 2 [(vL eI a.2.L),(vI a.2.f_at)])),(b,gB 9 Alert.enc c.1)]:Hp) (by kernel_rfl) (aa (vI (w64 (a.1*5))) (aa (.ref (ax 0) 0 0) (dW (([1,5,5,9]:List Int).map eI) nZ BI rfl rfl rfl rfl rfl wz ?_)))
   obtain ⟨l,é,q⟩:=bind_some q
   refine dG 0 [0] il ft (nS é) rfl hb24 rfl (by kernel_rfl) (by kernel_rfl) (by kernel_rfl) (by kernel_rfl) (by kernel_rfl) (by kernel_rfl) (by kernel_rfl) (by decide) (by kernel_rfl) wz (vI l.1) (by kernel_rfl) ([((ax 0),some (.cells 2 [(vL eI l.2.L),(vI l.2.f_at)])),(b,gB 9 Alert.enc c.1)]:Hp) (by kernel_rfl) (aa (.ref (ax 0) 0 0) (dW (([(⟨#[102,108,111,111,100]⟩:ByteArray),(⟨#[102,105,114,101,32,105,110,32,116,104,101,32,109,97,108,108]⟩:ByteArray)]:List ByteArray).map eS) qo Cc rfl rfl rfl rfl rfl wz ?_))
   obtain ⟨n,ê,q⟩:=bind_some q
   refine dG 0 [0] il ft (lI ê) rfl Sg rfl (by kernel_rfl) (by kernel_rfl) (by kernel_rfl) (by kernel_rfl) (by kernel_rfl) (by kernel_rfl) (by kernel_rfl) (by decide) (by kernel_rfl) wz (vS n.1) (by kernel_rfl) ([((ax 0),some (.cells 2 [(vL eI n.2.L),(vI n.2.f_at)])),(b,gB 9 Alert.enc c.1)]:Hp) (by kernel_rfl) (aJ (.agg [(vS e),(vS h.1),(vI f.1),.nil,(vI (w64 (a.1*5))),(vI 0),(vI l.1),.nil,(vS n.1)]) wz (by kernel_rfl) (bZ 0 (.inl rfl) z39 rfl wz (λo=>gp 0 il ft 2 fJ rfl rfl [(vS e),(vS h.1),(vI f.1),.nil,(vI (w64 (a.1*5))),(vI 0),(vI l.1),.nil,(vS n.1)] rfl wz (ah (ak (bv (aH lg rfl 4 rfl wz (aC 1 2 (.inr (by kernel_rfl)) (λ_ _ ag=>trivial) sz3 ag3 rfl rfl (vI (w64 (a.1*5))) rfl wz (aa (.ref (ax 0) 0 0) (dW (([1,10,20,50]:List Int).map eI) nZ BI rfl rfl rfl rfl rfl wz ?_))))))))))
   obtain ⟨g,ë,q⟩:=bind_some q
   refine dG 4 [0] (.inr (by kernel_rfl)) (λ_ _ ag=>by exact⟨.inr (.inl (dis1 (R8 ag (i:=0) (j:=2) rfl rfl (by decide)))),trivial⟩) (nS ë) rfl hb24 rfl (by kernel_rfl) (by kernel_rfl) (by kernel_rfl) (by kernel_rfl) (by kernel_rfl) (by kernel_rfl) (by kernel_rfl) (by decide) (by kernel_rfl) wz (vI g.1) (by kernel_rfl) ([((ax 0),some (.cells 2 [(vL eI g.2.L),(vI g.2.f_at)])),(b,gB 9 Alert.enc c.1),(o,some (.cells 9 [(vS e),(vS h.1),(vI f.1),.nil,(vI (w64 (a.1*5))),(vI 0),(vI l.1),.nil,(vS n.1)]))]:Hp) (by kernel_rfl) (aa (vI (w64 ((w64 (a.1*5))+g.1))) (aH DC rfl 5 rfl wz (gp 7 (.inr (by kernel_rfl)) (λ_ _ ag=>⟨.inr (.inr (by kernel_rfl)),⟨.inr (.inr (by kernel_rfl)),trivial⟩⟩) 2 sz3 rfl rfl [(vS e),(vS h.1),(vI f.1),.nil,(vI (w64 (a.1*5))),(vI (w64 ((w64 (a.1*5))+g.1))),(vI l.1),.nil,(vS n.1)] rfl wz (ah (aN (H0:=([((ax 0),some (.cells 2 [(vL eI g.2.L),(vI g.2.f_at)])),(b,gB 9 Alert.enc c.1),(o,some (.cells 9 [(vS e),(vS h.1),(vI f.1),.nil,(vI (w64 (a.1*5))),(vI (w64 ((w64 (a.1*5))+g.1))),(vI l.1),.nil,(vS n.1)]))]:Hp)) ([(0,(.ref (ax 0) 0 0)),(5,(gV b 9 c.1)),(7,(vS e)),(8,(.ref o 0 0)),(15,(vL eS m)),(16,(vI (m.length:Int))),(17,(vI (u:Int)))]:SL_) (by kernel_rfl) (yN (by kernel_rfl)) (ak (ai (aH xk rfl 2 rfl wz (aC 0 2 il ft sz3 ag3 rfl rfl (vI f.1) rfl wz (aa (vB (f.1 != 1)) (ah ?_)))))))))))
   obtain ⟨z,E,q⟩:=bind_some q
   refine SX (β:=Unit) (λ_=>([(0,(.ref (ax 0) 0 0)),(5,(gV b 9 c.1)),(8,(.ref o 0 0)),(15,(vL eS m)),(16,(vI (m.length:Int))),(17,(vI (u:Int)))]:SL_)) (λ_=>([((ax 0),some (.cells 2 [(vL eI z.1),(vI z.2.1)])),(b,gB 9 Alert.enc c.1),(o,some (.cells 9 [(vS e),(vS h.1),(vI f.1),(vL eS z.2.2),(vI (w64 (a.1*5))),(vI (w64 ((w64 (a.1*5))+g.1))),(vI l.1),.nil,(vS n.1)]))]:Hp)) (λ_=>True) ?_ ?_
   ·rcases aj E with⟨Ì,E⟩|⟨Ì,E⟩
    ·refine aA rfl Ì (ak (ai (dW (([(⟨#[97,97]⟩:ByteArray),(⟨#[97,98]⟩:ByteArray),(⟨#[97,99]⟩:ByteArray),(⟨#[97,100]⟩:ByteArray),(⟨#[122,122]⟩:ByteArray)]:List ByteArray).map eS) qo Cc rfl rfl rfl rfl rfl wz (bJ wY rfl wz (aa (vI 0) (ah (jl (λö => ?_))))))))
     obtain ⟨ù,Ò,E⟩:=bind_some E
     obtain ⟨ã,Ò⟩:=aS Ò
     refine gq (σ:=(List ByteArray)×(List Int)×Int) (N:=Nm) (λp=>(λ(t:(List ByteArray)×(List Int)×Int) (v:Nm)=>([(0,(.ref (ax 0) 0 0)),(5,(gV b 9 c.1)),(8,(.ref o 0 0)),(15,(vL eS m)),(16,(vI (m.length:Int))),(17,(vI (u:Int)))]:SL_)) p.1 p.2) (λp=>(λ(t:(List ByteArray)×(List Int)×Int) (v:Nm)=>([((ax 0),some (.cells 2 [(vL eI t.2.1),(vI t.2.2)])),(b,gB 9 Alert.enc c.1),(o,some (.cells 9 [(vS e),(vS h.1),(vI f.1),(gV v 1 t.1),(vI (w64 (a.1*5))),(vI (w64 ((w64 (a.1*5))+g.1))),(vI l.1),.nil,(vS n.1)])),(v,gB 1 eS t.1)]:Hp)) p.1 p.2) (λ(I:Nat)=>(λp=>(λ(t:(List ByteArray)×(List Int)×Int) (v:Nm)=>([(0,(.ref (ax 0) 0 0)),(5,(gV b 9 c.1)),(7,(vS e)),(8,(.ref o 0 0)),(15,(vL eS m)),(16,(vI (m.length:Int))),(17,(vI (u:Int))),(48,(vL eS ([(⟨#[97,97]⟩:ByteArray),(⟨#[97,98]⟩:ByteArray),(⟨#[97,99]⟩:ByteArray),(⟨#[97,100]⟩:ByteArray),(⟨#[122,122]⟩:ByteArray)]:List ByteArray))),(49,(vI (([(⟨#[97,97]⟩:ByteArray),(⟨#[97,98]⟩:ByteArray),(⟨#[97,99]⟩:ByteArray),(⟨#[97,100]⟩:ByteArray),(⟨#[122,122]⟩:ByteArray)]:List ByteArray).length:Int))),(50,(vI (I:Int)))]:SL_)) p.1 p.2)) (λk x s=>eu e k x s) ù ([(⟨#[97,97]⟩:ByteArray),(⟨#[97,98]⟩:ByteArray),(⟨#[97,99]⟩:ByteArray),(⟨#[97,100]⟩:ByteArray),(⟨#[122,122]⟩:ByteArray)]:List ByteArray) ((([]:List ByteArray),g.2.L,g.2.f_at),ö) Ò rfl (aG rfl) ?_ ?_
     ·rintro ⟨I,Ô,t,v⟩ ⟨Ã,T⟩
      dsimp only at Ã T
      cases Ô with
      | nil =>
       obtain rfl:=ae Ã
       refine ai (aa (vB (decide ((I:Int)<(([(⟨#[97,97]⟩:ByteArray),(⟨#[97,98]⟩:ByteArray),(⟨#[97,99]⟩:ByteArray),(⟨#[97,100]⟩:ByteArray),(⟨#[122,122]⟩:ByteArray)]:List ByteArray).length:Int)))) (ah ?_))
       refine ak (ay rfl (drop_nil T) (aX ?_))
       exact aU (t,v) rfl rfl (aG rfl)
      | cons P Ô =>
       obtain ⟨Ý,U,Ã⟩:=bind_some Ã
       refine ai (aa (vB (decide ((I:Int)<(([(⟨#[97,97]⟩:ByteArray),(⟨#[97,98]⟩:ByteArray),(⟨#[97,99]⟩:ByteArray),(⟨#[97,100]⟩:ByteArray),(⟨#[122,122]⟩:ByteArray)]:List ByteArray).length:Int)))) (ah ?_))
       refine ak (aA rfl (aZ T) (av ?_))
       unfold eu at U
       refine ak (aK (ai (dK qo rfl rfl (bz T) rfl wz (bK sz9 ag9 rfl (vS P) rfl wz (aa (vS P) (ah (ak ?_)))))))
       obtain ⟨O,J,U⟩:=bind_some U
       refine aR [(0,(.ref (ax 0) 0 0)),(5,(gV b 9 c.1)),(7,(vS e)),(8,(.ref o 0 0)),(10,(vS P)),(15,(vL eS m)),(16,(vI (m.length:Int))),(17,(vI (u:Int))),(48,(vL eS ([(⟨#[97,97]⟩:ByteArray),(⟨#[97,98]⟩:ByteArray),(⟨#[97,99]⟩:ByteArray),(⟨#[97,100]⟩:ByteArray),(⟨#[122,122]⟩:ByteArray)]:List ByteArray))),(49,(vI (([(⟨#[97,97]⟩:ByteArray),(⟨#[97,98]⟩:ByteArray),(⟨#[97,99]⟩:ByteArray),(⟨#[97,100]⟩:ByteArray),(⟨#[122,122]⟩:ByteArray)]:List ByteArray).length:Int))),(50,(vI (I:Int))),(60,(vB O.1))] [((ax 0),some (.cells 2 [(vL eI O.2.1),(vI O.2.2)])),(b,gB 9 Alert.enc c.1),(o,some (.cells 9 [(vS e),(vS h.1),(vI f.1),(gV v 1 t.1),(vI (w64 (a.1*5))),(vI (w64 ((w64 (a.1*5))+g.1))),(vI l.1),.nil,(vS n.1)])),(v,gB 1 eS t.1)] ?_ ?_
       ·refine au (aa (vS P) (aa (vS e) (aa (vB (sNe P e)) ?_)))
        rcases aj J with⟨Í,J⟩|⟨Í,J⟩
        ·refine aF rfl Í wz (aJ (.ref (ax 0) 0 0) wa rfl ?_)
         obtain ⟨Ê,í,J⟩:=bind_some J
         refine dG 0 [0] il ft (lF í) rfl Q6 rfl (by kernel_rfl) (by kernel_rfl) (by kernel_rfl) (by kernel_rfl) (by kernel_rfl) (by kernel_rfl) (by kernel_rfl) (by decide) (by kernel_rfl) wa (vB Ê.1) (by kernel_rfl) ([((ax 0),some (.cells 2 [(vL eI Ê.2.L),(vI Ê.2.f_at)])),(b,gB 9 Alert.enc c.1),(o,some (.cells 9 [(vS e),(vS h.1),(vI f.1),(gV v 1 t.1),(vI (w64 (a.1*5))),(vI (w64 ((w64 (a.1*5))+g.1))),(vI l.1),.nil,(vS n.1)])),(v,gB 1 eS t.1)]:Hp) (by kernel_rfl) (aa (vB Ê.1) (ah ?_))
         obtain rfl:=ae J
         exact cu
        ·refine aF rfl Í wz (af (af (aa (vB false) (ah ?_))))
         obtain rfl:=ae J
         exact cu
       ·rintro ⟨⟩ _ À Q w y
        refine aN _ w y ?_
        obtain ⟨Ú,K,U⟩:=bind_some U
        refine kT (β:=Nm) (λ(Ç:Nm)=>([(0,(.ref (ax 0) 0 0)),(5,(gV b 9 c.1)),(7,(vS e)),(8,(.ref o 0 0)),(15,(vL eS m)),(16,(vI (m.length:Int))),(17,(vI (u:Int))),(48,(vL eS ([(⟨#[97,97]⟩:ByteArray),(⟨#[97,98]⟩:ByteArray),(⟨#[97,99]⟩:ByteArray),(⟨#[97,100]⟩:ByteArray),(⟨#[122,122]⟩:ByteArray)]:List ByteArray))),(49,(vI (([(⟨#[97,97]⟩:ByteArray),(⟨#[97,98]⟩:ByteArray),(⟨#[97,99]⟩:ByteArray),(⟨#[97,100]⟩:ByteArray),(⟨#[122,122]⟩:ByteArray)]:List ByteArray).length:Int))),(50,(vI (I:Int)))]:SL_)) (λ(Ç:Nm)=>([((ax 0),some (.cells 2 [(vL eI O.2.1),(vI O.2.2)])),(b,gB 9 Alert.enc c.1),(o,some (.cells 9 [(vS e),(vS h.1),(vI f.1),(gV Ç 1 Ú),(vI (w64 (a.1*5))),(vI (w64 ((w64 (a.1*5))+g.1))),(vI l.1),.nil,(vS n.1)])),(Ç,gB 1 eS Ú)]:Hp)) (λ_=>True) ?_ ?_
        ·rcases aj K with⟨Î,K⟩|⟨Î,K⟩
         ·refine aA rfl Î (au (aH qx rfl 3 rfl wz (aC 0 2 il ft zV Cy rfl rfl (gV v 1 t.1) rfl wz (aa (vS P) (dW (([P]:List ByteArray).map eS) qo Cc rfl rfl rfl rfl rfl wz ?_)))))
          obtain ⟨á,ô,K⟩:=bind_some K
          refine lh 0 il ft (i:=3) Qd Qd sz9 z9 rfl (by decide) by9 (by decide) (λ_=>rfl) rfl rfl rfl ô wz (λà=>aH qx rfl 3 rfl wz (gp 0 il ft 2 zV rfl rfl [(vS e),(vS h.1),(vI f.1),(gV à 1 á),(vI (w64 (a.1*5))),(vI (w64 ((w64 (a.1*5))+g.1))),(vI l.1),.nil,(vS n.1)] (stC_g rfl) wz (ah ?_)))
          obtain rfl:=ae K
          exact aU à trivial rfl (aG rfl)
         ·refine ay rfl Î (av ?_)
          obtain rfl:=ae K
          exact aU v trivial rfl (aG rfl)
        ·rintro Ç _ À Q w y
         refine aN _ w y (au (dx (bf T ã) wz rfl (aa (vI ((I+1:Nat):Int)) (ah ?_))))
         obtain rfl:=ae U
         exact aV (I+1,Ô,(Ú,O.2.1,O.2.2),Ç) ⟨Ã,aP T⟩ (ls_ _) rfl (aG rfl)
     ·rintro ⟨t,v⟩ Å À Q w y
      subst Å
      refine aN _ w y (ai (aH qx rfl 3 rfl wz (aC 0 2 il ft zV Cy rfl rfl (gV v 1 t.1) rfl wz (zG wY rfl wz (aa (vB ((t.1.length:Int)==0)) (ah ?_))))))
      rcases aj E with⟨Ï,E⟩|⟨Ï,E⟩
      ·refine aA rfl Ï (au (dW (([(⟨#[122,121]⟩:ByteArray)]:List ByteArray).map eS) qo Cc rfl rfl rfl rfl rfl wz (aH qx rfl 3 rfl wz (gp 0 il ft 2 zV rfl rfl [(vS e),(vS h.1),(vI f.1),(vL eS ([(⟨#[122,121]⟩:ByteArray)]:List ByteArray)),(vI (w64 (a.1*5))),(vI (w64 ((w64 (a.1*5))+g.1))),(vI l.1),.nil,(vS n.1)] rfl wz (ah ?_)))))
       intro C_ b_ Q_ key_
       obtain rfl:=ae E
       exact key_ () trivial _ _ rfl (aG rfl)
      ·refine ay rfl Ï (av ?_)
       intro C_ b_ Q_ key_
       refine jP 3 rfl (fI 69 3 rfl rfl (wH_coc3 3 2 [false,false,false,true,false,false,false,false,false] [(vS e),(vS h.1),(vI f.1),(vL eS t.1),(vI (w64 (a.1*5))),(vI (w64 ((w64 (a.1*5))+g.1))),(vI l.1),.nil,(vS n.1)] rfl rfl rfl (λS hS=>kY (rfl) (kY (rfl) (kY (rfl) (kY (hS) (kY (rfl) (kY (rfl) (kY (rfl) (kY (rfl) (kY (rfl) (rfl)))))))))) ?_))
       obtain rfl:=ae E
       exact key_ () trivial _ _ rfl (aG rfl)
    ·refine ay rfl Ì (av ?_)
     intro C_ b_ Q_ key_
     refine wH_coc1 2 [false,false,false,true,false,false,false,false,false] [(vS e),(vS h.1),(vI f.1),(vL eS ([]:List ByteArray)),(vI (w64 (a.1*5))),(vI (w64 ((w64 (a.1*5))+g.1))),(vI l.1),.nil,(vS n.1)] rfl rfl (λ_=>rfl) ?_
     obtain rfl:=ae E
     exact key_ () trivial _ _ rfl (aG rfl)
   ·rintro ⟨⟩ _ À Q w y
    refine aN _ w y (ak (ai (aH xk rfl 2 rfl wz (aC 0 2 il ft sz3 ag3 rfl rfl (vI f.1) rfl wz (aa (vB (f.1==3)) (ah (jl (λM => ?_))))))))
    obtain ⟨A,F,q⟩:=bind_some q
    refine kT (β:=Nm) (λ(É:Nm)=>([(0,(.ref (ax 0) 0 0)),(5,(gV b 9 c.1)),(8,(.ref o 0 0)),(15,(vL eS m)),(16,(vI (m.length:Int))),(17,(vI (u:Int)))]:SL_)) (λ(É:Nm)=>([((ax 0),some (.cells 2 [(vL eI A.2.1),(vI A.2.2.1)])),(b,gB 9 Alert.enc c.1),(o,some (.cells 9 [(vS e),(vS h.1),(vI f.1),(vL eS z.2.2),(vI (w64 (a.1*5))),(vI (w64 ((w64 (a.1*5))+g.1))),(vI l.1),(gV É 4 A.1),(vS A.2.2.2)])),(É,gB 4 Rect.enc A.1)]:Hp)) (λ_=>True) ?_ ?_
    ·rcases aj F with⟨Ð,F⟩|⟨Ð,F⟩
     ·refine aA rfl Ð (au (aa (.ref (ax 0) 0 0) (dW (([(⟨#[]⟩:ByteArray),(⟨#[111,118,101,114]⟩:ByteArray)]:List ByteArray).map eS) qo Cc rfl rfl rfl rfl rfl wz ?_)))
      obtain ⟨Ë,î,F⟩:=bind_some F
      refine dG 0 [0] il ft (lI î) rfl Sg rfl (by kernel_rfl) (by kernel_rfl) (by kernel_rfl) (by kernel_rfl) (by kernel_rfl) (by kernel_rfl) (by kernel_rfl) (by decide) (by kernel_rfl) wz (vS Ë.1) (by kernel_rfl) ([((ax 0),some (.cells 2 [(vL eI Ë.2.L),(vI Ë.2.f_at)])),(b,gB 9 Alert.enc c.1),(o,some (.cells 9 [(vS e),(vS h.1),(vI f.1),(vL eS z.2.2),(vI (w64 (a.1*5))),(vI (w64 ((w64 (a.1*5))+g.1))),(vI l.1),(gV M 4 ([]:List Rect)),(vS n.1)])),(M,gB 4 Rect.enc ([]:List Rect))]:Hp) (by kernel_rfl) (aH Am rfl 8 rfl wz (gp 0 il ft 2 sz9 rfl rfl [(vS e),(vS h.1),(vI f.1),(vL eS z.2.2),(vI (w64 (a.1*5))),(vI (w64 ((w64 (a.1*5))+g.1))),(vI l.1),(gV M 4 ([]:List Rect)),(vS Ë.1)] rfl wz (ah ?_)))
      obtain rfl:=ae F
      exact aU M trivial rfl (aG rfl)
     ·refine ay rfl Ð (ai (aa (.ref (ax 0) 0 0) ?_))
      obtain ⟨H,ï,F⟩:=bind_some F
      refine dG 0 [0] il ft (dJ ï) rfl Gs rfl (by kernel_rfl) (by kernel_rfl) (by kernel_rfl) (by kernel_rfl) (by kernel_rfl) (by kernel_rfl) (by kernel_rfl) (by decide) (by kernel_rfl) wz (vI H.1) (by kernel_rfl) ([((ax 0),some (.cells 2 [(vL eI H.2.L),(vI H.2.f_at)])),(b,gB 9 Alert.enc c.1),(o,some (.cells 9 [(vS e),(vS h.1),(vI f.1),(vL eS z.2.2),(vI (w64 (a.1*5))),(vI (w64 ((w64 (a.1*5))+g.1))),(vI l.1),(gV M 4 ([]:List Rect)),(vS n.1)])),(M,gB 4 Rect.enc ([]:List Rect))]:Hp) (by kernel_rfl) (aa (vI 0) (ah ?_))
      obtain ⟨ú,Ó,F⟩:=bind_some F
      obtain ⟨ä,Ó⟩:=aS Ó
      refine gq (σ:=(List Rect)×(List Int)×Int) (N:=Nm) (λp=>(λ(C:(List Rect)×(List Int)×Int) (G:Nm)=>([(0,(.ref (ax 0) 0 0)),(5,(gV b 9 c.1)),(8,(.ref o 0 0)),(15,(vL eS m)),(16,(vI (m.length:Int))),(17,(vI (u:Int)))]:SL_)) p.1 p.2) (λp=>(λ(C:(List Rect)×(List Int)×Int) (G:Nm)=>([((ax 0),some (.cells 2 [(vL eI C.2.1),(vI C.2.2)])),(b,gB 9 Alert.enc c.1),(o,some (.cells 9 [(vS e),(vS h.1),(vI f.1),(vL eS z.2.2),(vI (w64 (a.1*5))),(vI (w64 ((w64 (a.1*5))+g.1))),(vI l.1),(gV G 4 C.1),(vS n.1)])),(G,gB 4 Rect.enc C.1)]:Hp)) p.1 p.2) (λ(X:Nat)=>(λp=>(λ(C:(List Rect)×(List Int)×Int) (G:Nm)=>([(0,(.ref (ax 0) 0 0)),(5,(gV b 9 c.1)),(8,(.ref o 0 0)),(15,(vL eS m)),(16,(vI (m.length:Int))),(17,(vI (u:Int))),(82,(vI H.1)),(83,(vI (X:Int)))]:SL_)) p.1 p.2)) (λk x s=>d9 k x s) ú (List.range (H.1).toNat) ((([]:List Rect),H.2.L,H.2.f_at),M) Ó rfl (aG rfl) ?_ ?_
      ·rintro ⟨X,Õ,C,G⟩ ⟨Ä,Á⟩
       dsimp only at Ä Á
       cases Õ with
       | nil =>
        obtain rfl:=ae Ä
        refine ai (aa (vB (decide ((X:Int)<H.1))) (ah ?_))
        refine ak (ay rfl (mg Á) (aX ?_))
        exact aU (C,G) rfl rfl (aG rfl)
       | cons û Õ =>
        obtain ⟨Ý,W,Ä⟩:=bind_some Ä
        refine ai (aa (vB (decide ((X:Int)<H.1))) (ah ?_))
        refine ak (aA rfl (kR Á) (av ?_))
        unfold d9 at W
        refine ak (aK (bv (aH ul rfl 7 rfl wz (aC 1 2 (.inr (by kernel_rfl)) (λ_ _ ag=>trivial) CQ FE rfl rfl (gV G 4 C.1) rfl wz (aa (.ref (ax 0) 0 0) ?_)))))
        obtain ⟨Z,ð,W⟩:=bind_some W
        refine dG 3 [0] (.inr (by kernel_rfl)) (λ_ _ ag=>by exact⟨.inr (.inl (dis1 (R8 ag (i:=0) (j:=2) rfl rfl (by decide)))),trivial⟩) (yR ð) rfl hb26 rfl (by kernel_rfl) (by kernel_rfl) (by kernel_rfl) (by kernel_rfl) (by kernel_rfl) (by kernel_rfl) (by kernel_rfl) (by decide) (by kernel_rfl) wz (.d (.agg (Rect.enc Z.1))) (by kernel_rfl) ([((ax 0),some (.cells 2 [(vL eI Z.2.L),(vI Z.2.f_at)])),(b,gB 9 Alert.enc c.1),(o,some (.cells 9 [(vS e),(vS h.1),(vI f.1),(vL eS z.2.2),(vI (w64 (a.1*5))),(vI (w64 ((w64 (a.1*5))+g.1))),(vI l.1),(gV G 4 C.1),(vS n.1)])),(G,gB 4 Rect.enc C.1)]:Hp) (by kernel_rfl) (dW (([Z.1]:List Rect).map Rect.enc) BC Tm rfl rfl rfl rfl rfl wz ?_)
        obtain ⟨Û,ò,W⟩:=bind_some W
        refine lh 5 (.inr (by kernel_rfl)) (λ_ _ ag=>⟨.inr (.inr (by kernel_rfl)),⟨.inr (.inr (by kernel_rfl)),trivial⟩⟩) (i:=3) Ij Ij rV z42 rfl (by decide) Rk (by decide) (λ_=>rfl) rfl rfl rfl ò wz (λÞ=>aH ul rfl 7 rfl wz (gp 7 (.inr (by kernel_rfl)) (λ_ _ ag=>⟨.inr (.inr (by kernel_rfl)),⟨.inr (.inr (by kernel_rfl)),⟨.inr (.inr (by kernel_rfl)),trivial⟩⟩⟩) 2 CQ rfl rfl [(vS e),(vS h.1),(vI f.1),(vL eS z.2.2),(vI (w64 (a.1*5))),(vI (w64 ((w64 (a.1*5))+g.1))),(vI l.1),(gV Þ 4 Û),(vS n.1)] (stC_g rfl) wz (ah (au (dx (ma Á ä) wz rfl (aa (vI ((X+1:Nat):Int)) (ah ?_)))))))
        obtain rfl:=ae W
        exact aV (X+1,Õ,(Û,Z.2.L,Z.2.f_at),Þ) ⟨Ä,aP Á⟩ (ls_ _) rfl (aG rfl)
      ·rintro ⟨C,G⟩ Å À Q w y
       subst Å
       obtain rfl:=ae F
       exact aU G trivial (pick_at [0,1,2,3,4,5] w rfl) (pre_at y (aG rfl))
    ·rintro É _ À Q w y
     refine aN _ w y (jP 3 rfl (wH_coc 3 2 [(vS e),(vS h.1),(vI f.1),(vL eS z.2.2),(vI (w64 (a.1*5))),(vI (w64 ((w64 (a.1*5))+g.1))),(vI l.1),(vL Rect.enc A.1),(vS A.2.2.2)] rfl rfl (λS hS=>kY (rfl) (kY (rfl) (kY (rfl) (kY (rfl) (kY (rfl) (kY (rfl) (kY (rfl) (kY (hS) (kY (rfl) (rfl)))))))))) (au (aa (gV b 9 c.1) (aC 0 2 il ft fJ jZ rfl rfl (.d (.agg (Alert.enc (⟨e,h.1,f.1,z.2.2,(w64 (a.1*5)),(w64 ((w64 (a.1*5))+g.1)),l.1,A.1,A.2.2.2⟩:Alert)))) rfl wz (dW (([(⟨e,h.1,f.1,z.2.2,(w64 (a.1*5)),(w64 ((w64 (a.1*5))+g.1)),l.1,A.1,A.2.2.2⟩:Alert)]:List Alert).map Alert.enc) mH Qv rfl rfl rfl rfl rfl wz ?_))))))
     obtain ⟨Ü,ó,q⟩:=bind_some q
     refine lh 0 il ft (i:=1) Ik Ik fJ z39 rfl (by decide) QQ (by decide) (λ_=>rfl) rfl rfl rfl ó wz (λß=>aa (gV ß 9 Ü) (ah (au (dx (bf R â) wz rfl (aa (vI ((u+1:Nat):Int)) (ah ?_))))))
     obtain rfl:=ae q
     exact aV (u+1,Ö,(Ü,A.2.1,A.2.2.1),ß) ⟨Â,aP R⟩ (ls_ _) rfl (aG rfl)
 ·rintro ⟨c,b⟩ Å À Q w y
  subst Å
  refine aN _ w y (ai (aa (gV b 9 c.1) ?_))
  obtain ⟨Y,å,B⟩:=bind_some B
  obtain ⟨_,Æ,B⟩:=bind_some B
  replace Æ:=jQ Æ
  refine kC 0 [] 1 0 il ft (nD å) rfl hb27 rfl rfl rfl (by kernel_rfl) rfl (.inl rfl) rfl (by kernel_rfl) (by kernel_rfl) (by kernel_rfl) (by kernel_rfl) rfl (by decide) (by kernel_rfl) jN (tV Æ) wz ([((ax 0),some (.cells 2 [(vL eI c.2.1),(vI c.2.2)])),(b,gB 9 Alert.enc Y)]:Hp) (by kernel_rfl) (bT (v':=(gV b 9 Y)) 5 rfl (fC Æ.symm) (bT (v':=(gV b 9 Y)) 98 rfl (fC Æ.symm) (ah (ai (aa (gV b 9 Y) (aa (gV b 9 Y) (ah (jP 1 rfl (fI 4 1 rfl rfl (fI 5 1 rfl rfl (fI 98 1 rfl rfl (fI 100 1 rfl rfl ?_))))))))))))
  obtain rfl:=ae B
  exact aB (Bf (.inr rfl) [(vL Alert.enc Y)] _ [0] [ax 0] ⟨rfl,trivial⟩ (.cons (kX rfl rfl) (.nil)) (by kernel_rfl) ⟨(by kernel_rfl),trivial⟩ (by decide) (by kernel_rfl))
theorem qI {o:Stream} {r:(List Post)×Stream} (t:iX o=some r) :
  FnM Tryz.prog 5 [(.ref (ax 0) 0 0)] [(.cells 2 [(vL eI o.L),(vI o.f_at)])] (vL Post.enc r.1) [some (.cells 2 [(vL eI r.2.L),(vI r.2.f_at)])]:=by
 refine FnM.of_wH ⟨Tryz.prog,26,[],[]⟩ rfl Tryz.func5 rfl rfl (lb_ rfl) (by kernel_rfl) ?_
 unfold iX at t
 refine ai (aa .nil (ah (ai (aa .nil (ah (ak (ai (dW (([(⟨#[112,97]⟩:ByteArray),(⟨#[112,98]⟩:ByteArray),(⟨#[112,99]⟩:ByteArray)]:List ByteArray).map eS) qo Cc rfl rfl rfl rfl rfl wz (bJ wY rfl wz (aa (vI 0) (ah (jl (λM => ?_)))))))))))))
 obtain ⟨O,w,t⟩:=bind_some t
 obtain ⟨F,w⟩:=aS w
 refine gq (σ:=(List Post)×(List Int)×Int) (N:=Nm) (λp=>(λ(a:(List Post)×(List Int)×Int) (b:Nm)=>([(3,(gV b 3 a.1))]:SL_)) p.1 p.2) (λp=>(λ(a:(List Post)×(List Int)×Int) (b:Nm)=>([((ax 0),some (.cells 2 [(vL eI a.2.1),(vI a.2.2)])),(b,gB 3 Post.enc a.1)]:Hp)) p.1 p.2) (λ(e:Nat)=>(λp=>(λ(a:(List Post)×(List Int)×Int) (b:Nm)=>([(0,(.ref (ax 0) 0 0)),(3,(gV b 3 a.1)),(6,(vL eS ([(⟨#[112,97]⟩:ByteArray),(⟨#[112,98]⟩:ByteArray),(⟨#[112,99]⟩:ByteArray)]:List ByteArray))),(7,(vI (([(⟨#[112,97]⟩:ByteArray),(⟨#[112,98]⟩:ByteArray),(⟨#[112,99]⟩:ByteArray)]:List ByteArray).length:Int))),(8,(vI (e:Int)))]:SL_)) p.1 p.2)) (λk x s=>gz k x s) O ([(⟨#[112,97]⟩:ByteArray),(⟨#[112,98]⟩:ByteArray),(⟨#[112,99]⟩:ByteArray)]:List ByteArray) ((([]:List Post),o.L,o.f_at),M) w rfl (aG rfl) ?_ ?_
 ·rintro ⟨e,A,a,b⟩ ⟨j,g⟩
  dsimp only at j g
  cases A with
  | nil =>
   obtain rfl:=ae j
   refine ai (aa (vB (decide ((e:Int)<(([(⟨#[112,97]⟩:ByteArray),(⟨#[112,98]⟩:ByteArray),(⟨#[112,99]⟩:ByteArray)]:List ByteArray).length:Int)))) (ah ?_))
   refine ak (ay rfl (drop_nil g) (aX ?_))
   exact aU (a,b) rfl rfl (aG rfl)
  | cons q A =>
   obtain ⟨Q,h,j⟩:=bind_some j
   refine ai (aa (vB (decide ((e:Int)<(([(⟨#[112,97]⟩:ByteArray),(⟨#[112,98]⟩:ByteArray),(⟨#[112,99]⟩:ByteArray)]:List ByteArray).length:Int)))) (ah ?_))
   refine ak (aA rfl (aZ g) (av ?_))
   unfold gz at h
   refine ak (aK (ai (dK qo rfl rfl (bz g) rfl wz (bK sz9 ag9 rfl (vS q) rfl wz (aa (vS q) (ah (ai (aa (.ref (ax 0) 0 0) ?_))))))))
   obtain ⟨u,H,h⟩:=bind_some h
   refine dG 0 [0] il ft (lF H) rfl Q6 rfl (by kernel_rfl) (by kernel_rfl) (by kernel_rfl) (by kernel_rfl) (by kernel_rfl) (by kernel_rfl) (by kernel_rfl) (by decide) (by kernel_rfl) wz (vB u.1) (by kernel_rfl) ([((ax 0),some (.cells 2 [(vL eI u.2.L),(vI u.2.f_at)])),(b,gB 3 Post.enc a.1)]:Hp) (by kernel_rfl) (aa (vB (!u.1)) (ah ?_))
   obtain ⟨f,c,h⟩:=bind_some h
   refine kT (β:=Nm) (λ(l:Nm)=>([(0,(.ref (ax 0) 0 0)),(3,(gV l 3 f.1)),(6,(vL eS ([(⟨#[112,97]⟩:ByteArray),(⟨#[112,98]⟩:ByteArray),(⟨#[112,99]⟩:ByteArray)]:List ByteArray))),(7,(vI (([(⟨#[112,97]⟩:ByteArray),(⟨#[112,98]⟩:ByteArray),(⟨#[112,99]⟩:ByteArray)]:List ByteArray).length:Int))),(8,(vI (e:Int)))]:SL_)) (λ(l:Nm)=>([((ax 0),some (.cells 2 [(vL eI f.2.1),(vI f.2.2)])),(l,gB 3 Post.enc f.1)]:Hp)) (λ_=>True) ?_ ?_
   ·rcases aj c with⟨v,c⟩|⟨v,c⟩
    ·refine aA rfl v (au (aa (gV b 3 a.1) (aa (vS q) (aa (.ref (ax 0) 0 0) ?_))))
     obtain ⟨m,I,c⟩:=bind_some c
     refine dG 0 [0] il ft (dJ I) rfl Gs rfl (by kernel_rfl) (by kernel_rfl) (by kernel_rfl) (by kernel_rfl) (by kernel_rfl) (by kernel_rfl) (by kernel_rfl) (by decide) (by kernel_rfl) wz (vI m.1) (by kernel_rfl) ([((ax 0),some (.cells 2 [(vL eI m.2.L),(vI m.2.f_at)])),(b,gB 3 Post.enc a.1)]:Hp) (by kernel_rfl) (aa (.ref (ax 0) 0 0) ?_)
     obtain ⟨n,J,c⟩:=bind_some c
     refine dG 0 [0] il ft (dJ J) rfl Gs rfl (by kernel_rfl) (by kernel_rfl) (by kernel_rfl) (by kernel_rfl) (by kernel_rfl) (by kernel_rfl) (by kernel_rfl) (by decide) (by kernel_rfl) wz (vI n.1) (by kernel_rfl) ([((ax 0),some (.cells 2 [(vL eI n.2.L),(vI n.2.f_at)])),(b,gB 3 Post.enc a.1)]:Hp) (by kernel_rfl) (aJ (.d (.agg (Post.enc (⟨q,m.1,n.1⟩:Post)))) wz (by kernel_rfl) (dW (([(⟨q,m.1,n.1⟩:Post)]:List Post).map Post.enc) MU ez28 rfl rfl rfl rfl rfl wz ?_))
     obtain ⟨E,K,c⟩:=bind_some c
     refine lh 0 il ft (i:=1) el28 el28 BZ z65 rfl (by decide) by65 (by decide) (λ_=>rfl) rfl rfl rfl K wz (λB=>aa (gV B 3 E) (ah ?_))
     obtain rfl:=ae c
     exact aU B trivial rfl (aG rfl)
    ·refine ay rfl v (av ?_)
     obtain rfl:=ae c
     exact aU b trivial rfl (aG rfl)
   ·rintro l _ P C y z
    refine aN _ y z (au (dx (bf g F) wz rfl (aa (vI ((e+1:Nat):Int)) (ah ?_))))
    obtain rfl:=ae h
    exact aV (e+1,A,(f.1,f.2.1,f.2.2),l) ⟨j,aP g⟩ (ls_ _) rfl (aG rfl)
 ·rintro ⟨a,b⟩ G P C y z
  subst G
  refine aN _ y z (ai (aa (gV b 3 a.1) (aa (gV b 3 a.1) (ah (jP 1 rfl (fI 2 1 rfl rfl (fI 3 1 rfl rfl (fI 25 1 rfl rfl ?_))))))))
  obtain rfl:=ae t
  exact aB (Bf (.inr rfl) [(vL Post.enc a.1)] _ [0] [ax 0] ⟨rfl,trivial⟩ (.cons (kX rfl rfl) (.nil)) (by kernel_rfl) ⟨(by kernel_rfl),trivial⟩ (by decide) (by kernel_rfl))
theorem D9 {h:Stream} {c:Int} {b:Int} {r:Int×Stream} (a:p8 h c b=some r) :
  FnM Tryz.prog 30 [(.ref (ax 0) 0 0),(vI c),(vI b)] [(.cells 2 [(vL eI h.L),(vI h.f_at)])] (vI r.1) [some (.cells 2 [(vL eI r.2.L),(vI r.2.f_at)])]:=by
 refine FnM.of_wH ⟨Tryz.prog,22,[],[]⟩ rfl Tryz.func30 rfl rfl (lb_ rfl) (by kernel_rfl) ?_
 unfold p8 at a
 refine ai (aa (vI 0) (ah (ak (ai (aa (.ref (ax 0) 0 0) ?_)))))
 obtain ⟨g,j,a⟩:=bind_some a
 refine dG 0 [0] il ft (lF j) rfl Q6 rfl (by kernel_rfl) (by kernel_rfl) (by kernel_rfl) (by kernel_rfl) (by kernel_rfl) (by kernel_rfl) (by kernel_rfl) (by decide) (by kernel_rfl) wz (vB g.1) (by kernel_rfl) ([((ax 0),some (.cells 2 [(vL eI g.2.L),(vI g.2.f_at)]))]:Hp) (by kernel_rfl) (ah ?_)
 rcases aj a with⟨f,a⟩|⟨f,a⟩
 ·refine aA rfl f (ai (aa (.ref (ax 0) 0 0) (aa (vI c) (aa (vI (w64 (c-1))) (aa (vI b) (aa (vI (w64 (b+1))) (aa (vI c) (aa (vI b) (dW (([(w64 (c-1)),(w64 (b+1)),c,b,(-1099511627776),1099511627776]:List Int).map eI) nZ BI rfl rfl rfl rfl rfl wz ?_)))))))))
  obtain ⟨e,k,a⟩:=bind_some a
  refine dG 0 [0] il ft (nS k) rfl hb24 rfl (by kernel_rfl) (by kernel_rfl) (by kernel_rfl) (by kernel_rfl) (by kernel_rfl) (by kernel_rfl) (by kernel_rfl) (by decide) (by kernel_rfl) wz (vI e.1) (by kernel_rfl) ([((ax 0),some (.cells 2 [(vL eI e.2.L),(vI e.2.f_at)]))]:Hp) (by kernel_rfl) (aa (vI e.1) (ah ?_))
  obtain rfl:=ae a
  exact aB (Bf (.inr rfl) [(vI e.1)] _ [0] [ax 0] ⟨rfl,trivial⟩ (.cons (kX rfl rfl) (.nil)) (by kernel_rfl) ⟨(by kernel_rfl),trivial⟩ (by decide) (by kernel_rfl))
 ·refine ay rfl f (av (ai (aa (.ref (ax 0) 0 0) (aa (vI c) (aa (vI b) ?_)))))
  obtain ⟨d,i,a⟩:=bind_some a
  refine dG 0 [0] il ft (dJ i) rfl Gs rfl (by kernel_rfl) (by kernel_rfl) (by kernel_rfl) (by kernel_rfl) (by kernel_rfl) (by kernel_rfl) (by kernel_rfl) (by decide) (by kernel_rfl) wz (vI d.1) (by kernel_rfl) ([((ax 0),some (.cells 2 [(vL eI d.2.L),(vI d.2.f_at)]))]:Hp) (by kernel_rfl) (aa (vI d.1) (ah ?_))
  obtain rfl:=ae a
  exact aB (Bf (.inr rfl) [(vI d.1)] _ [0] [ax 0] ⟨rfl,trivial⟩ (.cons (kX rfl rfl) (.nil)) (by kernel_rfl) ⟨(by kernel_rfl),trivial⟩ (by decide) (by kernel_rfl))
theorem rR {Y:Stream} {r:(List Receipt)×Stream} (B:jD Y=some r) :
  FnM Tryz.prog 6 [(.ref (ax 0) 0 0)] [(.cells 2 [(vL eI Y.L),(vI Y.f_at)])] (vL Receipt.enc r.1) [some (.cells 2 [(vL eI r.2.L),(vI r.2.f_at)])]:=by
 refine FnM.of_wH ⟨Tryz.prog,82,[],[]⟩ rfl Tryz.func6 rfl rfl (lb_ rfl) (by kernel_rfl) ?_
 unfold jD at B
 refine ai (aa .nil (ah (ai (aa .nil (ah (ak (ai (dW (([(⟨#[112,97]⟩:ByteArray),(⟨#[112,98]⟩:ByteArray),(⟨#[112,99]⟩:ByteArray)]:List ByteArray).map eS) qo Cc rfl rfl rfl rfl rfl wz (bJ wY rfl wz (aa (vI 0) (ah (jl (λæ => ?_)))))))))))))
 obtain ⟨ç,Ç,B⟩:=bind_some B
 obtain ⟨Ø,Ç⟩:=aS Ç
 refine gq (σ:=(List Receipt)×(List Int)×Int) (N:=Nm) (λp=>(λ(b:(List Receipt)×(List Int)×Int) (a:Nm)=>([(0,(.ref (ax 0) 0 0)),(3,(gV a 4 b.1))]:SL_)) p.1 p.2) (λp=>(λ(b:(List Receipt)×(List Int)×Int) (a:Nm)=>([((ax 0),some (.cells 2 [(vL eI b.2.1),(vI b.2.2)])),(a,gB 4 Receipt.enc b.1)]:Hp)) p.1 p.2) (λ(u:Nat)=>(λp=>(λ(b:(List Receipt)×(List Int)×Int) (a:Nm)=>([(0,(.ref (ax 0) 0 0)),(3,(gV a 4 b.1)),(11,(vL eS ([(⟨#[112,97]⟩:ByteArray),(⟨#[112,98]⟩:ByteArray),(⟨#[112,99]⟩:ByteArray)]:List ByteArray))),(12,(vI (([(⟨#[112,97]⟩:ByteArray),(⟨#[112,98]⟩:ByteArray),(⟨#[112,99]⟩:ByteArray)]:List ByteArray).length:Int))),(13,(vI (u:Int)))]:SL_)) p.1 p.2)) (λk x s=>jw k x s) ç ([(⟨#[112,97]⟩:ByteArray),(⟨#[112,98]⟩:ByteArray),(⟨#[112,99]⟩:ByteArray)]:List ByteArray) ((([]:List Receipt),Y.L,Y.f_at),æ) Ç rfl (aG rfl) ?_ ?_
 ·rintro ⟨u,Ì,b,a⟩ ⟨Q,M⟩
  dsimp only at Q M
  cases Ì with
  | nil =>
   obtain rfl:=ae Q
   refine ai (aa (vB (decide ((u:Int)<(([(⟨#[112,97]⟩:ByteArray),(⟨#[112,98]⟩:ByteArray),(⟨#[112,99]⟩:ByteArray)]:List ByteArray).length:Int)))) (ah ?_))
   refine ak (ay rfl (drop_nil M) (aX ?_))
   exact aU (b,a) rfl rfl (aG rfl)
  | cons v Ì =>
   obtain ⟨Ï,Á,Q⟩:=bind_some Q
   refine ai (aa (vB (decide ((u:Int)<(([(⟨#[112,97]⟩:ByteArray),(⟨#[112,98]⟩:ByteArray),(⟨#[112,99]⟩:ByteArray)]:List ByteArray).length:Int)))) (ah ?_))
   refine ak (aA rfl (aZ M) (av ?_))
   unfold jw at Á
   refine ak (aK (ai (dK qo rfl rfl (bz M) rfl wz (bK sz9 ag9 rfl (vS v) rfl wz (aa (vS v) (ah (ai (dW (([(⟨#[97,97]⟩:ByteArray),(⟨#[97,98]⟩:ByteArray),(⟨#[97,99]⟩:ByteArray)]:List ByteArray).map eS) qo Cc rfl rfl rfl rfl rfl wz (bJ wY rfl wz (aa (vI 0) (ah ?_)))))))))))
   obtain ⟨è,È,Á⟩:=bind_some Á
   obtain ⟨Õ,È⟩:=aS È
   refine gq (σ:=(List Receipt)×(List Int)×Int) (N:=Nm) (λp=>(λ(h:(List Receipt)×(List Int)×Int) (w:Nm)=>([(0,(.ref (ax 0) 0 0)),(3,(gV w 4 h.1)),(11,(vL eS ([(⟨#[112,97]⟩:ByteArray),(⟨#[112,98]⟩:ByteArray),(⟨#[112,99]⟩:ByteArray)]:List ByteArray))),(12,(vI (([(⟨#[112,97]⟩:ByteArray),(⟨#[112,98]⟩:ByteArray),(⟨#[112,99]⟩:ByteArray)]:List ByteArray).length:Int))),(13,(vI (u:Int)))]:SL_)) p.1 p.2) (λp=>(λ(h:(List Receipt)×(List Int)×Int) (w:Nm)=>([((ax 0),some (.cells 2 [(vL eI h.2.1),(vI h.2.2)])),(w,gB 4 Receipt.enc h.1)]:Hp)) p.1 p.2) (λ(A:Nat)=>(λp=>(λ(h:(List Receipt)×(List Int)×Int) (w:Nm)=>([(0,(.ref (ax 0) 0 0)),(3,(gV w 4 h.1)),(5,(vS v)),(11,(vL eS ([(⟨#[112,97]⟩:ByteArray),(⟨#[112,98]⟩:ByteArray),(⟨#[112,99]⟩:ByteArray)]:List ByteArray))),(12,(vI (([(⟨#[112,97]⟩:ByteArray),(⟨#[112,98]⟩:ByteArray),(⟨#[112,99]⟩:ByteArray)]:List ByteArray).length:Int))),(13,(vI (u:Int))),(17,(vL eS ([(⟨#[97,97]⟩:ByteArray),(⟨#[97,98]⟩:ByteArray),(⟨#[97,99]⟩:ByteArray)]:List ByteArray))),(18,(vI (([(⟨#[97,97]⟩:ByteArray),(⟨#[97,98]⟩:ByteArray),(⟨#[97,99]⟩:ByteArray)]:List ByteArray).length:Int))),(19,(vI (A:Int)))]:SL_)) p.1 p.2)) (λk x s=>jA v k x s) è ([(⟨#[97,97]⟩:ByteArray),(⟨#[97,98]⟩:ByteArray),(⟨#[97,99]⟩:ByteArray)]:List ByteArray) ((b.1,b.2.1,b.2.2),a) È rfl (aG rfl) ?_ ?_
   ·rintro ⟨A,Ê,h,w⟩ ⟨R,J⟩
    dsimp only at R J
    cases Ê with
    | nil =>
     obtain rfl:=ae R
     refine ai (aa (vB (decide ((A:Int)<(([(⟨#[97,97]⟩:ByteArray),(⟨#[97,98]⟩:ByteArray),(⟨#[97,99]⟩:ByteArray)]:List ByteArray).length:Int)))) (ah ?_))
     refine ak (ay rfl (drop_nil J) (aX ?_))
     exact aU (h,w) rfl rfl (aG rfl)
    | cons C Ê =>
     obtain ⟨Ï,Â,R⟩:=bind_some R
     refine ai (aa (vB (decide ((A:Int)<(([(⟨#[97,97]⟩:ByteArray),(⟨#[97,98]⟩:ByteArray),(⟨#[97,99]⟩:ByteArray)]:List ByteArray).length:Int)))) (ah ?_))
     refine ak (aA rfl (aZ J) (av ?_))
     unfold jA at Â
     refine ak (aK (ai (dK qo rfl rfl (bz J) rfl wz (bK sz9 ag9 rfl (vS C) rfl wz (aa (vS C) (ah (ai (dW (([false,true]:List Bool).map eB) es76 ez76 rfl rfl rfl rfl rfl wz (bJ un76 rfl wz (aa (vI 0) (ah ?_)))))))))))
     obtain ⟨é,É,Â⟩:=bind_some Â
     obtain ⟨Ö,É⟩:=aS É
     refine gq (σ:=(List Receipt)×(List Int)×Int) (N:=Nm) (λp=>(λ(l:(List Receipt)×(List Int)×Int) (m:Nm)=>([(0,(.ref (ax 0) 0 0)),(3,(gV m 4 l.1)),(5,(vS v)),(11,(vL eS ([(⟨#[112,97]⟩:ByteArray),(⟨#[112,98]⟩:ByteArray),(⟨#[112,99]⟩:ByteArray)]:List ByteArray))),(12,(vI (([(⟨#[112,97]⟩:ByteArray),(⟨#[112,98]⟩:ByteArray),(⟨#[112,99]⟩:ByteArray)]:List ByteArray).length:Int))),(13,(vI (u:Int))),(17,(vL eS ([(⟨#[97,97]⟩:ByteArray),(⟨#[97,98]⟩:ByteArray),(⟨#[97,99]⟩:ByteArray)]:List ByteArray))),(18,(vI (([(⟨#[97,97]⟩:ByteArray),(⟨#[97,98]⟩:ByteArray),(⟨#[97,99]⟩:ByteArray)]:List ByteArray).length:Int))),(19,(vI (A:Int)))]:SL_)) p.1 p.2) (λp=>(λ(l:(List Receipt)×(List Int)×Int) (m:Nm)=>([((ax 0),some (.cells 2 [(vL eI l.2.1),(vI l.2.2)])),(m,gB 4 Receipt.enc l.1)]:Hp)) p.1 p.2) (λ(F:Nat)=>(λp=>(λ(l:(List Receipt)×(List Int)×Int) (m:Nm)=>([(0,(.ref (ax 0) 0 0)),(3,(gV m 4 l.1)),(5,(vS v)),(7,(vS C)),(11,(vL eS ([(⟨#[112,97]⟩:ByteArray),(⟨#[112,98]⟩:ByteArray),(⟨#[112,99]⟩:ByteArray)]:List ByteArray))),(12,(vI (([(⟨#[112,97]⟩:ByteArray),(⟨#[112,98]⟩:ByteArray),(⟨#[112,99]⟩:ByteArray)]:List ByteArray).length:Int))),(13,(vI (u:Int))),(17,(vL eS ([(⟨#[97,97]⟩:ByteArray),(⟨#[97,98]⟩:ByteArray),(⟨#[97,99]⟩:ByteArray)]:List ByteArray))),(18,(vI (([(⟨#[97,97]⟩:ByteArray),(⟨#[97,98]⟩:ByteArray),(⟨#[97,99]⟩:ByteArray)]:List ByteArray).length:Int))),(19,(vI (A:Int))),(23,(vL eB ([false,true]:List Bool))),(24,(vI (([false,true]:List Bool).length:Int))),(25,(vI (F:Int)))]:SL_)) p.1 p.2)) (λk x s=>jB v C k x s) é ([false,true]:List Bool) ((h.1,h.2.1,h.2.2),w) É rfl (aG rfl) ?_ ?_
     ·rintro ⟨F,Ë,l,m⟩ ⟨T,K⟩
      dsimp only at T K
      cases Ë with
      | nil =>
       obtain rfl:=ae T
       refine ai (aa (vB (decide ((F:Int)<(([false,true]:List Bool).length:Int)))) (ah ?_))
       refine ak (ay rfl (drop_nil K) (aX ?_))
       exact aU (l,m) rfl rfl (aG rfl)
      | cons À Ë =>
       obtain ⟨Ï,O,T⟩:=bind_some T
       refine ai (aa (vB (decide ((F:Int)<(([false,true]:List Bool).length:Int)))) (ah ?_))
       refine ak (aA rfl (aZ K) (av ?_))
       unfold jB at O
       refine ak (aK (ai (dK es76 rfl rfl (bz K) rfl wz (bK sz4 ag4 rfl (vB À) rfl wz (aa (vB À) (ah (ai (aa (.ref (ax 0) 0 0) ?_))))))))
       obtain ⟨Í,Ù,O⟩:=bind_some O
       refine dG 0 [0] il ft (lF Ù) rfl Q6 rfl (by kernel_rfl) (by kernel_rfl) (by kernel_rfl) (by kernel_rfl) (by kernel_rfl) (by kernel_rfl) (by kernel_rfl) (by decide) (by kernel_rfl) wz (vB Í.1) (by kernel_rfl) ([((ax 0),some (.cells 2 [(vL eI Í.2.L),(vI Í.2.f_at)])),(m,gB 4 Receipt.enc l.1)]:Hp) (by kernel_rfl) (ah ?_)
       obtain ⟨H,z,O⟩:=bind_some O
       refine kT (β:=Nm) (λ(W:Nm)=>([(0,(.ref (ax 0) 0 0)),(3,(gV W 4 H.1)),(5,(vS v)),(7,(vS C)),(11,(vL eS ([(⟨#[112,97]⟩:ByteArray),(⟨#[112,98]⟩:ByteArray),(⟨#[112,99]⟩:ByteArray)]:List ByteArray))),(12,(vI (([(⟨#[112,97]⟩:ByteArray),(⟨#[112,98]⟩:ByteArray),(⟨#[112,99]⟩:ByteArray)]:List ByteArray).length:Int))),(13,(vI (u:Int))),(17,(vL eS ([(⟨#[97,97]⟩:ByteArray),(⟨#[97,98]⟩:ByteArray),(⟨#[97,99]⟩:ByteArray)]:List ByteArray))),(18,(vI (([(⟨#[97,97]⟩:ByteArray),(⟨#[97,98]⟩:ByteArray),(⟨#[97,99]⟩:ByteArray)]:List ByteArray).length:Int))),(19,(vI (A:Int))),(23,(vL eB ([false,true]:List Bool))),(24,(vI (([false,true]:List Bool).length:Int))),(25,(vI (F:Int)))]:SL_)) (λ(W:Nm)=>([((ax 0),some (.cells 2 [(vL eI H.2.1),(vI H.2.2)])),(W,gB 4 Receipt.enc H.1)]:Hp)) (λ_=>True) ?_ ?_
       ·rcases aj z with⟨Ä,z⟩|⟨Ä,z⟩
        ·refine aA rfl Ä (au (aa (gV m 4 l.1) (aa (vS v) (aa (vS C) (aa (.ref (ax 0) 0 0) ?_)))))
         obtain ⟨X,Ú,z⟩:=bind_some z
         refine dG 0 [0] il ft (dJ Ú) rfl Gs rfl (by kernel_rfl) (by kernel_rfl) (by kernel_rfl) (by kernel_rfl) (by kernel_rfl) (by kernel_rfl) (by kernel_rfl) (by decide) (by kernel_rfl) wz (vI X.1) (by kernel_rfl) ([((ax 0),some (.cells 2 [(vL eI X.2.L),(vI X.2.f_at)])),(m,gB 4 Receipt.enc l.1)]:Hp) (by kernel_rfl) (aa (vB À) (aJ (.d (.agg (Receipt.enc (⟨v,C,X.1,À⟩:Receipt)))) wz (by kernel_rfl) (dW (([(⟨v,C,X.1,À⟩:Receipt)]:List Receipt).map Receipt.enc) Dw ez30 rfl rfl rfl rfl rfl wz ?_)))
         obtain ⟨Ô,å,z⟩:=bind_some z
         refine lh 0 il ft (i:=1) MQ MQ rP z48 rfl (by decide) by48 (by decide) (λ_=>rfl) rfl rfl rfl å wz (λÓ=>aa (gV Ó 4 Ô) (ah ?_))
         obtain rfl:=ae z
         exact aU Ó trivial rfl (aG rfl)
        ·refine ay rfl Ä (av ?_)
         obtain rfl:=ae z
         exact aU m trivial rfl (aG rfl)
       ·rintro W _ Z P q t
        refine aN _ q t (au (dx (bf K Ö) wz rfl (aa (vI ((F+1:Nat):Int)) (ah ?_))))
        obtain rfl:=ae O
        exact aV (F+1,Ë,(H.1,H.2.1,H.2.2),W) ⟨T,aP K⟩ (ls_ _) rfl (aG rfl)
     ·rintro ⟨l,m⟩ U Z P q t
      subst U
      refine aN _ q t (au (dx (bf J Õ) wz rfl (aa (vI ((A+1:Nat):Int)) (ah ?_))))
      obtain rfl:=ae Â
      exact aV (A+1,Ê,(l.1,l.2.1,l.2.2),m) ⟨R,aP J⟩ (ls_ _) rfl (aG rfl)
   ·rintro ⟨h,w⟩ U Z P q t
    subst U
    refine aN _ q t (au (dx (bf M Ø) wz rfl (aa (vI ((u+1:Nat):Int)) (ah ?_))))
    obtain rfl:=ae Á
    exact aV (u+1,Ì,(h.1,h.2.1,h.2.2),w) ⟨Q,aP M⟩ (ls_ _) rfl (aG rfl)
 ·rintro ⟨b,a⟩ U Z P q t
  subst U
  refine aN _ q t (ak (ak ?_))
  obtain ⟨Î,E,B⟩:=bind_some B
  refine aR [(0,(.ref (ax 0) 0 0)),(3,(gV a 4 b.1)),(49,(vB Î.1))] [((ax 0),some (.cells 2 [(vL eI Î.2.1),(vI Î.2.2)])),(a,gB 4 Receipt.enc b.1)] ?_ ?_
  ·refine au (aa (gV a 4 b.1) (zG xG rfl wz (aa (vB (decide ((b.1.length:Int)>0))) ?_)))
   rcases aj E with⟨Å,E⟩|⟨Å,E⟩
   ·refine aF rfl Å wz (aJ (.ref (ax 0) 0 0) wa rfl ?_)
    obtain ⟨Ã,Û,E⟩:=bind_some E
    refine dG 0 [0] il ft (lF Û) rfl Q6 rfl (by kernel_rfl) (by kernel_rfl) (by kernel_rfl) (by kernel_rfl) (by kernel_rfl) (by kernel_rfl) (by kernel_rfl) (by decide) (by kernel_rfl) wa (vB Ã.1) (by kernel_rfl) ([((ax 0),some (.cells 2 [(vL eI Ã.2.L),(vI Ã.2.f_at)])),(a,gB 4 Receipt.enc b.1)]:Hp) (by kernel_rfl) (aa (vB Ã.1) (ah ?_))
    obtain rfl:=ae E
    exact cu
   ·refine aF rfl Å wz (af (af (aa (vB false) (ah ?_))))
    obtain rfl:=ae E
    exact cu
  ·rintro ⟨⟩ _ Z P q t
   refine aN _ q t ?_
   obtain ⟨I,f,B⟩:=bind_some B
   refine aR [(3,(gV a 4 I.1))] [((ax 0),some (.cells 2 [(vL eI I.2.1),(vI I.2.2)])),(a,gB 4 Receipt.enc I.1)] ?_ ?_
   ·rcases aj f with⟨Æ,f⟩|⟨Æ,f⟩
    ·refine aA rfl Æ (ai (aa (gV a 4 b.1) (aa (.ref (ax 0) 0 0) (aa (gV a 4 b.1) (zG xG rfl wz ?_)))))
     obtain ⟨c,Ü,f⟩:=bind_some f
     refine dG 0 [0] il ft (lG Ü) rfl QZ rfl (by kernel_rfl) (by kernel_rfl) (by kernel_rfl) (by kernel_rfl) (by kernel_rfl) (by kernel_rfl) (by kernel_rfl) (by decide) (by kernel_rfl) wz (vI c.1) (by kernel_rfl) ([((ax 0),some (.cells 2 [(vL eI c.2.L),(vI c.2.f_at)])),(a,gB 4 Receipt.enc b.1)]:Hp) (by kernel_rfl) ?_
     obtain ⟨_,Ò,f⟩:=bind_some f
     refine xg Dw rfl rfl (gN Ò) (dP Ò) wz (aa (.ref a (0+(c.1).toNat) 0) (ah (bv (aa (.ref a (0+(c.1).toNat) 0) (aa (.ref a (0+(c.1).toNat) 0) (aa (.ref a (0+(c.1).toNat) 0) (aa (.ref (ax 0) 0 0) (aa (.ref a (0+(c.1).toNat) 0) (aa (.ref a (0+(c.1).toNat) 0) (aH EG rfl 0 rfl wz ?_))))))))))
     obtain ⟨Ð,à,f⟩:=bind_some f
     refine jm 7 1 (.inr (by kernel_rfl)) (λ_ _ ag=>trivial) sz9 ag9 rfl rfl à (vS Ð.Player) rfl wz (dW (([Ð.Player,(⟨#[]⟩:ByteArray),(⟨#[122,122]⟩:ByteArray)]:List ByteArray).map eS) qo Cc rfl rfl rfl rfl rfl wz ?_)
     obtain ⟨n,Ý,f⟩:=bind_some f
     refine dG 9 [0] (.inr (by kernel_rfl)) (λ_ _ ag=>by exact⟨.inr (.inr (by kernel_rfl)),trivial⟩) (lI Ý) rfl Sg rfl (by kernel_rfl) (by kernel_rfl) (by kernel_rfl) (by kernel_rfl) (by kernel_rfl) (by kernel_rfl) (by kernel_rfl) (by decide) (by kernel_rfl) wz (vS n.1) (by kernel_rfl) ([((ax 0),some (.cells 2 [(vL eI n.2.L),(vI n.2.f_at)])),(a,gB 4 Receipt.enc b.1)]:Hp) (by kernel_rfl) (aa (.ref (ax 0) 0 0) (aa (.ref a (0+(c.1).toNat) 0) (aa (.ref a (0+(c.1).toNat) 0) (aH Es rfl 1 rfl wz ?_))))
     obtain ⟨Ñ,á,f⟩:=bind_some f
     refine jm 14 1 (.inr (by kernel_rfl)) (λ_ _ ag=>⟨.inl ⟨rfl,rfl⟩,⟨.inr (.inl (dis1 (R8 ag (i:=1) (j:=0) rfl rfl (by decide)))),trivial⟩⟩) sz9 ag9 rfl rfl á (vS Ñ.Alert) rfl wz (dW (([Ñ.Alert,(⟨#[65]⟩:ByteArray)]:List ByteArray).map eS) qo Cc rfl rfl rfl rfl rfl wz ?_)
     obtain ⟨y,Þ,f⟩:=bind_some f
     refine dG 16 [0] (.inr (by kernel_rfl)) (λ_ _ ag=>by exact⟨.inr (.inr (by kernel_rfl)),⟨.inr (.inr (by kernel_rfl)),⟨.inr (.inr (by kernel_rfl)),trivial⟩⟩⟩) (lI Þ) rfl Sg rfl (by kernel_rfl) (by kernel_rfl) (by kernel_rfl) (by kernel_rfl) (by kernel_rfl) (by kernel_rfl) (by kernel_rfl) (by decide) (by kernel_rfl) wz (vS y.1) (by kernel_rfl) ([((ax 0),some (.cells 2 [(vL eI y.2.L),(vI y.2.f_at)])),(a,gB 4 Receipt.enc b.1)]:Hp) (by kernel_rfl) (aa (.ref (ax 0) 0 0) ?_)
     obtain ⟨G,ß,f⟩:=bind_some f
     refine dG 18 [0] (.inr (by kernel_rfl)) (λ_ _ ag=>by exact⟨.inr (.inr (by kernel_rfl)),⟨.inr (.inr (by kernel_rfl)),⟨.inr (.inr (by kernel_rfl)),⟨.inr (.inr (by kernel_rfl)),trivial⟩⟩⟩⟩) (D9 ß) rfl hb30 rfl (by kernel_rfl) (by kernel_rfl) (by kernel_rfl) (by kernel_rfl) (by kernel_rfl) (by kernel_rfl) (by kernel_rfl) (by decide) (by kernel_rfl) wz (vI G.1) (by kernel_rfl) ([((ax 0),some (.cells 2 [(vL eI G.2.L),(vI G.2.f_at)])),(a,gB 4 Receipt.enc b.1)]:Hp) (by kernel_rfl) (aa (.ref a (0+(c.1).toNat) 0) (aH EG rfl 0 rfl wz ?_))
     obtain ⟨e,â,f⟩:=bind_some f
     refine pR 21 (.inr (by kernel_rfl)) (λ_ _ ag=>⟨.inr (.inr (by kernel_rfl)),⟨.inr (.inr (by kernel_rfl)),⟨.inr (.inr (by kernel_rfl)),⟨.inr (.inr (by kernel_rfl)),⟨.inr (.inr (by kernel_rfl)),trivial⟩⟩⟩⟩⟩) 1 sz9 rfl rfl â (⟨n.1,e.Alert,e.At,e.Seen⟩:Receipt) rfl wz (bT (v':=(gV a 4 (b.1.set (0+(c.1).toNat) (⟨n.1,e.Alert,e.At,e.Seen⟩:Receipt)))) 3 rfl (fC (by simp)) (bT (v':=(gV a 4 (b.1.set (0+(c.1).toNat) (⟨n.1,e.Alert,e.At,e.Seen⟩:Receipt)))) 50 rfl (fC (by simp)) (bT (v':=(gV a 4 (b.1.set (0+(c.1).toNat) (⟨n.1,e.Alert,e.At,e.Seen⟩:Receipt)))) 52 rfl (fC (by simp)) (aa (.ref a (0+(c.1).toNat) 0) (aH Es rfl 1 rfl wz ?_)))))
     obtain ⟨g,ã,f⟩:=bind_some f
     refine pR 24 (.inr (by kernel_rfl)) (λ_ _ ag=>⟨.inr (.inr (by kernel_rfl)),⟨.inr (.inr (by kernel_rfl)),⟨.inr (.inr (by kernel_rfl)),⟨.inr (.inr (by kernel_rfl)),⟨.inr (.inr (by kernel_rfl)),⟨.inr (.inr (by kernel_rfl)),trivial⟩⟩⟩⟩⟩⟩) 1 sz9 rfl rfl ã (⟨g.Player,y.1,g.At,g.Seen⟩:Receipt) rfl wz (bT (v':=(gV a 4 ((b.1.set (0+(c.1).toNat) (⟨n.1,e.Alert,e.At,e.Seen⟩:Receipt)).set (0+(c.1).toNat) (⟨g.Player,y.1,g.At,g.Seen⟩:Receipt)))) 3 rfl (fC (by simp)) (bT (v':=(gV a 4 ((b.1.set (0+(c.1).toNat) (⟨n.1,e.Alert,e.At,e.Seen⟩:Receipt)).set (0+(c.1).toNat) (⟨g.Player,y.1,g.At,g.Seen⟩:Receipt)))) 50 rfl (fC (by simp)) (bT (v':=(gV a 4 ((b.1.set (0+(c.1).toNat) (⟨n.1,e.Alert,e.At,e.Seen⟩:Receipt)).set (0+(c.1).toNat) (⟨g.Player,y.1,g.At,g.Seen⟩:Receipt)))) 52 rfl (fC (by simp)) (aa (.ref a (0+(c.1).toNat) 0) (aH BF rfl 2 rfl wz ?_)))))
     obtain ⟨o,ä,f⟩:=bind_some f
     refine pR 27 (.inr (by kernel_rfl)) (λ_ _ ag=>⟨.inr (.inr (by kernel_rfl)),⟨.inr (.inr (by kernel_rfl)),⟨.inr (.inr (by kernel_rfl)),⟨.inr (.inr (by kernel_rfl)),⟨.inr (.inr (by kernel_rfl)),⟨.inr (.inr (by kernel_rfl)),⟨.inr (.inr (by kernel_rfl)),trivial⟩⟩⟩⟩⟩⟩⟩) 1 sz3 rfl rfl ä (⟨o.Player,o.Alert,G.1,o.Seen⟩:Receipt) rfl wz (bT (v':=(gV a 4 (((b.1.set (0+(c.1).toNat) (⟨n.1,e.Alert,e.At,e.Seen⟩:Receipt)).set (0+(c.1).toNat) (⟨g.Player,y.1,g.At,g.Seen⟩:Receipt)).set (0+(c.1).toNat) (⟨o.Player,o.Alert,G.1,o.Seen⟩:Receipt)))) 3 rfl (fC (by simp)) (bT (v':=(gV a 4 (((b.1.set (0+(c.1).toNat) (⟨n.1,e.Alert,e.At,e.Seen⟩:Receipt)).set (0+(c.1).toNat) (⟨g.Player,y.1,g.At,g.Seen⟩:Receipt)).set (0+(c.1).toNat) (⟨o.Player,o.Alert,G.1,o.Seen⟩:Receipt)))) 50 rfl (fC (by simp)) (bT (v':=(gV a 4 (((b.1.set (0+(c.1).toNat) (⟨n.1,e.Alert,e.At,e.Seen⟩:Receipt)).set (0+(c.1).toNat) (⟨g.Player,y.1,g.At,g.Seen⟩:Receipt)).set (0+(c.1).toNat) (⟨o.Player,o.Alert,G.1,o.Seen⟩:Receipt)))) 52 rfl (fC (by simp)) (ah ?_))))
     obtain rfl:=ae f
     exact cu
    ·refine ay rfl Æ (av ?_)
     obtain rfl:=ae f
     exact cu
   ·rintro ⟨⟩ _ Z P q t
    refine aN _ q t (ai (aa (gV a 4 I.1) (aa (gV a 4 I.1) (ah (jP 1 rfl (fI 2 1 rfl rfl (fI 3 1 rfl rfl (fI 81 1 rfl rfl ?_))))))))
    obtain rfl:=ae B
    exact aB (Bf (.inr rfl) [(vL Receipt.enc I.1)] _ [0] [ax 0] ⟨rfl,trivial⟩ (.cons (kX rfl rfl) (.nil)) (by kernel_rfl) ⟨(by kernel_rfl),trivial⟩ (by decide) (by kernel_rfl))
theorem gX {e:ByteArray} {r:Bool} (g:kit_IsKey e=some r) :
  FnM Tryz.prog 73 [(vS e)] [] (vB r) []:=by
 refine FnM.of_wH ⟨Tryz.prog,48,[],[]⟩ rfl Tryz.func73 rfl rfl (lb_ rfl) (by kernel_rfl) ?_
 unfold kit_IsKey at g
 refine ai (aa (vB false) (ah (ak (ai (aa (vI 0) (ah ?_))))))
 obtain ⟨L,E,g⟩:=bind_some g
 obtain ⟨K,E⟩:=dF E
 refine eU (λ(c:Int)=>[(0,(vS e))]) (λ(c:Int)=>[]) (λ(l:Nat)=>(λ(c:Int)=>[(0,(vS e)),(3,(vI c))])) (λs=>lM e s) L K 0 E rfl (aG rfl) ?_ ?_
 ·rintro ⟨l,c⟩ h
  dsimp only at h
  cases l with
  | zero=>cases h
  | succ l =>
   obtain ⟨N,f,h⟩:=bind_some h
   unfold lM at f
   refine ak (ai (aa (vI c) (aa (vS e) (yG un9 rfl wz (aa (vB (decide (c<(e.size:Int)))) (ah ?_))))))
   rcases aj f with⟨m,f⟩|⟨m,f⟩
   ·refine aA rfl m (av (ak (aK (ai (aa (vS e) (aa (vI c) ?_))))))
    obtain ⟨a,J,f⟩:=bind_some f
    refine yM un9 rfl rfl J wz (aa (.d (.int .u8 (a.toNat:Int))) (ah (ak ?_)))
    obtain ⟨M,b,f⟩:=bind_some f
    refine aR [(0,(vS e)),(3,(vI c)),(40,(vB M))] [] ?_ ?_
    ·refine au (aa (.d (.int .u8 (a.toNat:Int))) (aa (vB (decide ((a.toNat:Int)>=97))) ?_))
     rcases aj b with⟨n,b⟩|⟨n,b⟩
     ·refine aF rfl n wz (aJ (.d (.int .u8 (a.toNat:Int))) wa rfl (aJ (vB (decide ((a.toNat:Int)<=122))) wa rfl (aa (vB (decide ((a.toNat:Int)<=122))) ?_)))
      rcases aj b with⟨o,b⟩|⟨o,b⟩
      ·refine aF rfl o wz (af (af (af (dI (wn rfl rfl) (dI (wn rfl rfl) (dI (wn rfl rfl) (dI (wn rfl rfl) (dI (wn rfl rfl) (dI (wn rfl rfl) (dI (wn rfl rfl) (dI (wn rfl rfl) (dI (wn rfl rfl) (dI (wn rfl rfl) (dI (wn rfl rfl) (dI (wn rfl rfl) (dI (wn rfl rfl) (dI (wn rfl rfl) (af (aa (vB true) (aa (vB false) (ah ?_)))))))))))))))))))))
       obtain rfl:=ae b
       exact cu
      ·refine aF rfl o wz (aJ (vI c) wa rfl (aJ (vB (decide (c>0))) wa rfl ?_))
       rcases aj b with⟨p,b⟩|⟨p,b⟩
       ·refine aF rfl p wa (aJ (.d (.int .u8 (a.toNat:Int))) wa rfl (aJ (vB (decide ((a.toNat:Int)>=48))) wa rfl ?_))
        rcases aj b with⟨q,b⟩|⟨q,b⟩
        ·refine aF rfl q wa (aJ (.d (.int .u8 (a.toNat:Int))) wa rfl (aJ (vB (decide ((a.toNat:Int)<=57))) wa rfl (aJ (vB (decide ((a.toNat:Int)<=57))) wa rfl ?_)))
         rcases aj b with⟨t,b⟩|⟨t,b⟩
         ·refine aF rfl t wa (af (af (aJ (vB true) wa rfl (aJ (vB true) wa rfl (af (af (aJ (vB true) wa rfl (aJ (vB true) wa rfl (aa (vB true) (aa (vB false) (ah ?_)))))))))))
          obtain rfl:=ae b
          exact cu
         ·refine aF rfl t wa (aJ (.d (.int .u8 (a.toNat:Int))) wa rfl (aJ (vB ((a.toNat:Int)==45)) wa rfl (aJ (vB ((a.toNat:Int)==45)) wa rfl ?_)))
          rcases aj b with⟨u,b⟩|⟨u,b⟩
          ·refine aF rfl u wa (af (af (aJ (vB true) wa rfl (aJ (vB true) wa rfl (aa (vB true) (aa (vB false) (ah ?_)))))))
           obtain rfl:=ae b
           exact cu
          ·refine aF rfl u wa (aJ (.d (.int .u8 (a.toNat:Int))) wa rfl (aJ (vB ((a.toNat:Int)==95)) wa rfl (aJ (vB ((a.toNat:Int)==95)) wa rfl (aJ (vB ((a.toNat:Int)==95)) wa rfl (aa (vB ((a.toNat:Int)==95)) (aa (vB (!((a.toNat:Int)==95))) (ah ?_)))))))
           obtain rfl:=ae b
           exact cu
        ·refine aF rfl q wa (af (af (aJ (vB false) wa rfl (aJ (vB false) wa rfl (aJ (.d (.int .u8 (a.toNat:Int))) wa rfl (aJ (vB ((a.toNat:Int)==45)) wa rfl (aJ (vB ((a.toNat:Int)==45)) wa rfl ?_)))))))
         rcases aj b with⟨v,b⟩|⟨v,b⟩
         ·refine aF rfl v wa (af (af (aJ (vB true) wa rfl (aJ (vB true) wa rfl (aa (vB true) (aa (vB false) (ah ?_)))))))
          obtain rfl:=ae b
          exact cu
         ·refine aF rfl v wa (aJ (.d (.int .u8 (a.toNat:Int))) wa rfl (aJ (vB ((a.toNat:Int)==95)) wa rfl (aJ (vB ((a.toNat:Int)==95)) wa rfl (aJ (vB ((a.toNat:Int)==95)) wa rfl (aa (vB ((a.toNat:Int)==95)) (aa (vB (!((a.toNat:Int)==95))) (ah ?_)))))))
          obtain rfl:=ae b
          exact cu
       ·refine aF rfl p wa (af (af (af (dI (wn rfl rfl) (dI (wn rfl rfl) (af (af (dI (wn rfl rfl) (dI (wn rfl rfl) (af (af (dI (wn rfl rfl) (dI (wn rfl rfl) (af (aJ (vB false) wa rfl (aa (vB false) (aa (vB true) (ah ?_))))))))))))))))))
        obtain rfl:=ae b
        exact cu
     ·refine aF rfl n wz (af (af (aa (vB false) (aa (vB false) (aJ (vI c) wa rfl (aJ (vB (decide (c>0))) wa rfl ?_))))))
      rcases aj b with⟨w,b⟩|⟨w,b⟩
      ·refine aF rfl w wa (aJ (.d (.int .u8 (a.toNat:Int))) wa rfl (aJ (vB (decide ((a.toNat:Int)>=48))) wa rfl ?_))
       rcases aj b with⟨x,b⟩|⟨x,b⟩
       ·refine aF rfl x wa (aJ (.d (.int .u8 (a.toNat:Int))) wa rfl (aJ (vB (decide ((a.toNat:Int)<=57))) wa rfl (aJ (vB (decide ((a.toNat:Int)<=57))) wa rfl ?_)))
        rcases aj b with⟨y,b⟩|⟨y,b⟩
        ·refine aF rfl y wa (af (af (aJ (vB true) wa rfl (aJ (vB true) wa rfl (af (af (aJ (vB true) wa rfl (aJ (vB true) wa rfl (aa (vB true) (aa (vB false) (ah ?_)))))))))))
         obtain rfl:=ae b
         exact cu
        ·refine aF rfl y wa (aJ (.d (.int .u8 (a.toNat:Int))) wa rfl (aJ (vB ((a.toNat:Int)==45)) wa rfl (aJ (vB ((a.toNat:Int)==45)) wa rfl ?_)))
         rcases aj b with⟨z,b⟩|⟨z,b⟩
         ·refine aF rfl z wa (af (af (aJ (vB true) wa rfl (aJ (vB true) wa rfl (aa (vB true) (aa (vB false) (ah ?_)))))))
          obtain rfl:=ae b
          exact cu
         ·refine aF rfl z wa (aJ (.d (.int .u8 (a.toNat:Int))) wa rfl (aJ (vB ((a.toNat:Int)==95)) wa rfl (aJ (vB ((a.toNat:Int)==95)) wa rfl (aJ (vB ((a.toNat:Int)==95)) wa rfl (aa (vB ((a.toNat:Int)==95)) (aa (vB (!((a.toNat:Int)==95))) (ah ?_)))))))
          obtain rfl:=ae b
          exact cu
       ·refine aF rfl x wa (af (af (aJ (vB false) wa rfl (aJ (vB false) wa rfl (aJ (.d (.int .u8 (a.toNat:Int))) wa rfl (aJ (vB ((a.toNat:Int)==45)) wa rfl (aJ (vB ((a.toNat:Int)==45)) wa rfl ?_)))))))
        rcases aj b with⟨A,b⟩|⟨A,b⟩
        ·refine aF rfl A wa (af (af (aJ (vB true) wa rfl (aJ (vB true) wa rfl (aa (vB true) (aa (vB false) (ah ?_)))))))
         obtain rfl:=ae b
         exact cu
        ·refine aF rfl A wa (aJ (.d (.int .u8 (a.toNat:Int))) wa rfl (aJ (vB ((a.toNat:Int)==95)) wa rfl (aJ (vB ((a.toNat:Int)==95)) wa rfl (aJ (vB ((a.toNat:Int)==95)) wa rfl (aa (vB ((a.toNat:Int)==95)) (aa (vB (!((a.toNat:Int)==95))) (ah ?_)))))))
         obtain rfl:=ae b
         exact cu
      ·refine aF rfl w wa (af (af (af (dI (wn rfl rfl) (dI (wn rfl rfl) (af (af (dI (wn rfl rfl) (dI (wn rfl rfl) (af (af (dI (wn rfl rfl) (dI (wn rfl rfl) (af (aJ (vB false) wa rfl (aa (vB false) (aa (vB true) (ah ?_))))))))))))))))))
       obtain rfl:=ae b
       exact cu
    ·rintro ⟨⟩ _ G F j k
     refine aN _ j k ?_
     rcases aj f with⟨B,f⟩|⟨B,f⟩
     ·refine aA rfl B (ai (aa (vB false) (ah ?_)))
      obtain rfl:=ae f
      obtain rfl:=ae h
      obtain rfl:=ae g
      exact aB (aM [(vB false)] ⟨rfl,trivial⟩)
     ·refine ay rfl B (av (au (aa (vI c) (aa (vI (w64 (c+1))) (aa (vI (w64 (c+1))) (ah ?_))))))
      obtain rfl:=ae f
      exact aV (l,(w64 (c+1))) h (ls_ _) rfl (aG rfl)
   ·refine ay rfl m (aX ?_)
    obtain rfl:=ae f
    obtain rfl:=ae h
    exact aU (c) rfl rfl (aG rfl)
 ·rintro c I G F j k
  subst I
  refine aN _ j k (ak ?_)
  obtain ⟨H,i,g⟩:=bind_some g
  refine aR [(2,(vB H))] [] ?_ ?_
  ·refine au (aa (vS e) (aa (vB (sNe e (⟨#[]⟩:ByteArray))) ?_))
   rcases aj i with⟨C,i⟩|⟨C,i⟩
   ·refine aF rfl C wz (aJ (vS e) wa rfl (yG un9 rfl wa (aJ (vB (decide ((e.size:Int)<=40))) wa rfl (aa (vB (decide ((e.size:Int)<=40))) (aa (vB (decide ((e.size:Int)<=40))) (ah ?_))))))
    obtain rfl:=ae i
    exact cu
   ·refine aF rfl C wz (af (af (af (aa (vB false) (aa (vB false) (ah ?_))))))
    obtain rfl:=ae i
    exact cu
  ·rintro ⟨⟩ _ G F j k
   refine aN _ j k ?_
   obtain rfl:=ae g
   exact aB (aM [(vB H)] ⟨rfl,trivial⟩)
end Go.Proofs.YtadpbmfnnlkdlacGreatDoor.Law

