/-
 The machine computes these plain functions (written by a program of ours).
-/
import Derived.Test.YtkjlhdminmpmkaaGreatDoorFacts
import Derived.Test.YtkjlhdminmpmkaaGreatDoorDefs
open Go Go.Eng Go.Proofs
namespace Go.Proofs.YtkjlhdminmpmkaaGreatDoor.Law
set_option maxRecDepth 100000
set_option linter.unusedVariables false
set_option maxHeartbeats 1000000
theorem xL {h:Int} {b:Int} {r:Int} (a:rY h b=some r) :
  FnM Tryz.prog 64 [(vI h),(vI b)] [] (vI r) []:=by
 refine FnM.of_wH ⟨Tryz.prog,16,[],[]⟩ rfl Tryz.func64 rfl rfl (lb_ rfl) (by kernel_rfl) ?_
 unfold rY at a
 refine ai (aa (vI 0) (af (ak (ai (aa (vI b) (aa (vB (decide (b<1))) (af ?_)))))))
 rcases aj a with⟨f,a⟩|⟨f,a⟩
 ·refine aA rfl f (ai (aa (vI 0) (af ?_)))
  obtain rfl:=ae a
  exact aC (aO [(vI 0)] ⟨rfl,trivial⟩)
 ·refine ay rfl f (ax (ai (aa (vI h) (aa (vI b) ?_))))
  obtain ⟨c,k,a⟩:=bind_some a
  refine RD rfl rfl k wz (aa (vI c) (af (ak (ai (aa (vI c) (aa (vB (decide (c<0))) (af ?_)))))))
  obtain ⟨e,d,a⟩:=bind_some a
  refine aU [(0,(vI e))] [] ?_ ?_
  ·rcases aj d with⟨g,d⟩|⟨g,d⟩
   ·refine aA rfl g (au (aa (vI c) (aa (vI b) (aa (vI (w64 (c+b))) (aa (vI (w64 (c+b))) (af ?_))))))
    obtain rfl:=ae d
    exact cu
   ·refine ay rfl g (ax ?_)
    obtain rfl:=ae d
    exact cu
  ·rintro ⟨⟩ _ m l i j
   refine aR _ i j (ai (aa (vI e) (aa (vI e) (af ?_))))
   obtain rfl:=ae a
   exact aC (aO [(vI e)] ⟨rfl,trivial⟩)
theorem oG {a:Stream} {d:Int} {r:Int×Stream} (b:jB a d=some r) :
  FnM Tryz.prog 36 [(.ref (av 0) 0 0),(vI d)] [(.cells 2 [(vL eI a.L),(vI a.f_at)])] (vI r.1) [some (.cells 2 [(vL eI r.2.L),(vI r.2.f_at)])]:=by
 refine FnM.of_wH ⟨Tryz.prog,64,[],[]⟩ rfl Tryz.func36 rfl rfl (lb_ rfl) (by kernel_rfl) ?_
 unfold jB at b
 refine ai (aa (vI 0) (af (ai (aa (.ref (av 0) 0 0) (aa (.ref (av 0) 0 0) (aI Eo rfl 1 rfl wz (aH 0 0 il ft sz3 ag3 rfl rfl (vI a.f_at) rfl wz (aa (vI (w64 (a.f_at+1))) (aa (.ref (av 0) 0 0) (aI Eo rfl 1 rfl wz (gp 0 il ft 0 sz3 rfl rfl [(vL eI a.L),(vI (w64 (a.f_at+1)))] rfl wz (af (ak (ai (aa (.ref (av 0) 0 0) (aa (.ref (av 0) 0 0) (aI IA rfl 0 rfl wz (aH 0 0 il ft uw wo rfl rfl (vL eI a.L) rfl wz (bQ ug rfl wz (aa (vB ((a.L.length:Int)==0)) (af ?_)))))))))))))))))))))
 rcases aj b with⟨f,b⟩|⟨f,b⟩
 ·refine aA rfl f (ai (aa (.ref (av 0) 0 0) (aa (.ref (av 0) 0 0) (aI Eo rfl 1 rfl wz (aH 0 0 il ft sz3 ag3 rfl rfl (vI (w64 (a.f_at+1))) rfl wz (aa (vI (w64 ((w64 (a.f_at+1))*7919))) (aa (vI d) ?_)))))))
  obtain ⟨h,k,b⟩:=bind_some b
  refine aG (xL k) rfl hb64 rfl rfl rfl rfl wz (aa (vI h) (af ?_))
  obtain rfl:=ae b
  exact aC (M3 (.inr rfl) [(vI h)] _ [0] [av 0] ⟨rfl,trivial⟩ (.cons (qa rfl rfl) (.nil)) (by kernel_rfl) ⟨(by kernel_rfl),trivial⟩ (by decide) (by kernel_rfl))
 ·refine ay rfl f (ax (ak (bv (aa (.ref (av 0) 0 0) (aa (.ref (av 0) 0 0) (aI Eo rfl 1 rfl wz (aH 3 0 (.inr (by kernel_rfl)) (λ_ _ ag=>trivial) sz3 ag3 rfl rfl (vI (w64 (a.f_at+1))) rfl wz (aa (vI (w64 ((w64 (a.f_at+1))-1))) (aa (.ref (av 0) 0 0) (aa (.ref (av 0) 0 0) (aI IA rfl 0 rfl wz (aH 8 0 (.inr (by kernel_rfl)) (λ_ _ ag=>⟨.inl ⟨rfl,rfl⟩,trivial⟩) uw wo rfl rfl (vL eI a.L) rfl wz (bQ ug rfl wz ?_)))))))))))))
  obtain ⟨c,m,b⟩:=bind_some b
  refine RD rfl rfl m wz (aa (vI c) (af (ak (bv (aa (.ref (av 0) 0 0) (aa (.ref (av 0) 0 0) (aI Eo rfl 1 rfl wz (aH 3 0 (.inr (by kernel_rfl)) (λ_ _ ag=>trivial) sz3 ag3 rfl rfl (vI (w64 (a.f_at+1))) rfl wz (aa (vI (w64 ((w64 (a.f_at+1))-1))) (aa (.ref (av 0) 0 0) (aa (.ref (av 0) 0 0) (aI IA rfl 0 rfl wz (aH 8 0 (.inr (by kernel_rfl)) (λ_ _ ag=>⟨.inl ⟨rfl,rfl⟩,trivial⟩) uw wo rfl rfl (vL eI a.L) rfl wz (bQ ug rfl wz ?_))))))))))))))
  obtain ⟨e,n,b⟩:=bind_some b
  refine Oh rfl rfl n wz (aa (vI e) (af (aR (H0:=([((av 0),some (.cells 2 [(vL eI a.L),(vI (w64 (a.f_at+1)))]))]:Hp)) ([(0,(.ref (av 0) 0 0)),(1,(vI d)),(5,(vI c)),(6,(vI e))]:SL_) (by kernel_rfl) (Br (by kernel_rfl)) (ai (aa (.ref (av 0) 0 0) (aa (.ref (av 0) 0 0) (aI IA rfl 0 rfl wz (aH 0 0 il ft uw wo rfl rfl (vL eI a.L) rfl wz (aa (vI c) ?_)))))))))
  obtain ⟨p,l,b⟩:=bind_some b
  refine dI ic rfl rfl l rfl wz (bH sz3 ag3 rfl (vI p) rfl wz ?_)
  obtain ⟨o,i,b⟩:=bind_some b
  refine aG (xL i) rfl hb64 rfl rfl rfl rfl wz (aa (vI e) (aa (vI c) (aa (vI (w64 (7919+c))) (aa (vI (w64 (e*(w64 (7919+c))))) (aa (vI (w64 (o+(w64 (e*(w64 (7919+c))))))) (aa (vI d) ?_))))))
  obtain ⟨g,j,b⟩:=bind_some b
  refine aG (xL j) rfl hb64 rfl rfl rfl rfl wz (aa (vI g) (af ?_))
  obtain rfl:=ae b
  exact aC (M3 (.inr rfl) [(vI g)] _ [0] [av 0] ⟨rfl,trivial⟩ (.cons (qa rfl rfl) (.nil)) (by kernel_rfl) ⟨(by kernel_rfl),trivial⟩ (by decide) (by kernel_rfl))
theorem lN {d:Stream} {c:Int} {r:Bool×Stream} (b:gY d c=some r) :
  FnM Tryz.prog 11 [(.ref (av 0) 0 0),(vI c)] [(.cells 2 [(vL eI d.L),(vI d.f_at)])] (vB r.1) [some (.cells 2 [(vL eI r.2.L),(vI r.2.f_at)])]:=by
 refine FnM.of_wH ⟨Tryz.prog,9,[],[]⟩ rfl Tryz.func11 rfl rfl (lb_ rfl) (by kernel_rfl) ?_
 unfold gY at b
 refine ai (aa (vB false) (af (ai (aa (.ref (av 0) 0 0) (aa (vI c) ?_)))))
 obtain ⟨a,e,b⟩:=bind_some b
 refine jF 0 [0] il ft (oG e) rfl hb36 rfl (by kernel_rfl) (by kernel_rfl) (by kernel_rfl) (by kernel_rfl) (by kernel_rfl) (by kernel_rfl) (by kernel_rfl) (by decide) (by kernel_rfl) wz (vI a.1) (by kernel_rfl) ([((av 0),some (.cells 2 [(vL eI a.2.L),(vI a.2.f_at)]))]:Hp) (by kernel_rfl) (aa (vB (a.1==0)) (aa (vB (a.1==0)) (af ?_)))
 obtain rfl:=ae b
 exact aC (M3 (.inr rfl) [(vB (a.1==0))] _ [0] [av 0] ⟨rfl,trivial⟩ (.cons (qa rfl rfl) (.nil)) (by kernel_rfl) ⟨(by kernel_rfl),trivial⟩ (by decide) (by kernel_rfl))
theorem gX {d:Stream} {b:(List Int)} {r:Int×Stream} (a:eX d b=some r) :
  FnM Tryz.prog 12 [(.ref (av 0) 0 0),(vL eI b)] [(.cells 2 [(vL eI d.L),(vI d.f_at)])] (vI r.1) [some (.cells 2 [(vL eI r.2.L),(vI r.2.f_at)])]:=by
 refine FnM.of_wH ⟨Tryz.prog,12,[],[]⟩ rfl Tryz.func12 rfl rfl (lb_ rfl) (by kernel_rfl) ?_
 unfold eX at a
 refine ai (aa (vI 0) (af (ai (aa (vL eI b) (aa (.ref (av 0) 0 0) (aa (vL eI b) (bQ ug rfl wz ?_)))))))
 obtain ⟨c,f,a⟩:=bind_some a
 refine jF 0 [0] il ft (oG f) rfl hb36 rfl (by kernel_rfl) (by kernel_rfl) (by kernel_rfl) (by kernel_rfl) (by kernel_rfl) (by kernel_rfl) (by kernel_rfl) (by decide) (by kernel_rfl) wz (vI c.1) (by kernel_rfl) ([((av 0),some (.cells 2 [(vL eI c.2.L),(vI c.2.f_at)]))]:Hp) (by kernel_rfl) ?_
 obtain ⟨e,g,a⟩:=bind_some a
 refine dI ic rfl rfl g rfl wz (bH sz3 ag3 rfl (vI e) rfl wz (aa (vI e) (af ?_)))
 obtain rfl:=ae a
 exact aC (M3 (.inr rfl) [(vI e)] _ [0] [av 0] ⟨rfl,trivial⟩ (.cons (qa rfl rfl) (.nil)) (by kernel_rfl) ⟨(by kernel_rfl),trivial⟩ (by decide) (by kernel_rfl))
theorem uP {E:Stream} {r:(List Spot)×Stream} (F:eU E=some r) :
  FnM Tryz.prog 4 [(.ref (av 0) 0 0)] [(.cells 2 [(vL eI E.L),(vI E.f_at)])] (vL Spot.enc r.1) [some (.cells 2 [(vL eI r.2.L),(vI r.2.f_at)])]:=by
 refine FnM.of_wH ⟨Tryz.prog,53,[],[]⟩ rfl Tryz.func4 rfl rfl (lb_ rfl) (by kernel_rfl) ?_
 unfold eU at F
 refine ai (aa .nil (af (ai (aa .nil (af (ak (ai (gL (([(⟨#[115,97]⟩:ByteArray),(⟨#[115,98]⟩:ByteArray),(⟨#[115,99]⟩:ByteArray),(⟨#[115,100]⟩:ByteArray),(⟨#[115,101]⟩:ByteArray)]:List ByteArray).map eS) wW LY rfl rfl rfl rfl rfl wz (bQ Et rfl wz (aa (vI 0) (af (jJ (λÉ => ?_)))))))))))))
 obtain ⟨Ê,K,F⟩:=bind_some F
 obtain ⟨U,K⟩:=bn K
 refine fV (σ:=(List Spot)×(List Int)×Int) (N:=Nm) (λp=>(λ(b:(List Spot)×(List Int)×Int) (c:Nm)=>([(3,(gV c 5 b.1))]:SL_)) p.1 p.2) (λp=>(λ(b:(List Spot)×(List Int)×Int) (c:Nm)=>([((av 0),some (.cells 2 [(vL eI b.2.1),(vI b.2.2)])),(c,gB 5 Spot.enc b.1)]:Hp)) p.1 p.2) (λ(a:Nat)=>(λp=>(λ(b:(List Spot)×(List Int)×Int) (c:Nm)=>([(0,(.ref (av 0) 0 0)),(3,(gV c 5 b.1)),(9,(vL eS ([(⟨#[115,97]⟩:ByteArray),(⟨#[115,98]⟩:ByteArray),(⟨#[115,99]⟩:ByteArray),(⟨#[115,100]⟩:ByteArray),(⟨#[115,101]⟩:ByteArray)]:List ByteArray))),(10,(vI (([(⟨#[115,97]⟩:ByteArray),(⟨#[115,98]⟩:ByteArray),(⟨#[115,99]⟩:ByteArray),(⟨#[115,100]⟩:ByteArray),(⟨#[115,101]⟩:ByteArray)]:List ByteArray).length:Int))),(11,(vI (a:Int)))]:SL_)) p.1 p.2)) (λk x s=>dM k x s) Ê ([(⟨#[115,97]⟩:ByteArray),(⟨#[115,98]⟩:ByteArray),(⟨#[115,99]⟩:ByteArray),(⟨#[115,100]⟩:ByteArray),(⟨#[115,101]⟩:ByteArray)]:List ByteArray) ((([]:List Spot),E.L,E.f_at),É) K rfl (aK rfl) ?_ ?_
 ·rintro ⟨a,G,b,c⟩ ⟨u,m⟩
  dsimp only at u m
  cases G with
  | nil =>
   obtain rfl:=ae u
   refine ai (aa (vB (decide ((a:Int)<(([(⟨#[115,97]⟩:ByteArray),(⟨#[115,98]⟩:ByteArray),(⟨#[115,99]⟩:ByteArray),(⟨#[115,100]⟩:ByteArray),(⟨#[115,101]⟩:ByteArray)]:List ByteArray).length:Int)))) (af ?_))
   refine ak (ay rfl (drop_nil m) (aY ?_))
   exact aW (b,c) rfl rfl (aK rfl)
  | cons j G =>
   obtain ⟨À,f,u⟩:=bind_some u
   refine ai (aa (vB (decide ((a:Int)<(([(⟨#[115,97]⟩:ByteArray),(⟨#[115,98]⟩:ByteArray),(⟨#[115,99]⟩:ByteArray),(⟨#[115,100]⟩:ByteArray),(⟨#[115,101]⟩:ByteArray)]:List ByteArray).length:Int)))) (af ?_))
   refine ak (aA rfl (bE m) (ax ?_))
   unfold dM at f
   refine ak (aQ (ai (aa (vI (a:Int)) (dI wW rfl rfl (bN m) rfl wz (bH sz9 ag9 rfl (vS j) rfl wz (aa (vI (a:Int)) (aa (vS j) (af (ak (ai (aa (.ref (av 0) 0 0) ?_)))))))))))
   obtain ⟨C,Â,f⟩:=bind_some f
   refine jF 0 [0] il ft (lN Â) rfl hb11 rfl (by kernel_rfl) (by kernel_rfl) (by kernel_rfl) (by kernel_rfl) (by kernel_rfl) (by kernel_rfl) (by kernel_rfl) (by decide) (by kernel_rfl) wz (vB C.1) (by kernel_rfl) ([((av 0),some (.cells 2 [(vL eI C.2.L),(vI C.2.f_at)])),(c,gB 5 Spot.enc b.1)]:Hp) (by kernel_rfl) (af ?_)
   rcases aj f with⟨I,f⟩|⟨I,f⟩
   ·refine aA rfl I (aY (au (dS (bC m U) wz rfl (aa (vI ((a+1:Nat):Int)) (af ?_)))))
    obtain rfl:=ae f
    exact aZ (a+1,G,(b.1,C.2.L,C.2.f_at),c) ⟨u,aV m⟩ (ls_ _) rfl (aK rfl)
   ·refine ay rfl I (ax (ai (aa (vS j) (aa (vI (a:Int)) (aa (vI (w64 (10*(a:Int)))) (aa (vI (a:Int)) (aa (vI (w64 (10*(a:Int)))) (aa (.ref (av 0) 0 0) (gL (([5,10,10]:List Int).map eI) ic AV rfl rfl rfl rfl rfl wz ?_)))))))))
    obtain ⟨g,Ã,f⟩:=bind_some f
    refine jF 0 [0] il ft (gX Ã) rfl Ll rfl (by kernel_rfl) (by kernel_rfl) (by kernel_rfl) (by kernel_rfl) (by kernel_rfl) (by kernel_rfl) (by kernel_rfl) (by decide) (by kernel_rfl) wz (vI g.1) (by kernel_rfl) ([((av 0),some (.cells 2 [(vL eI g.2.L),(vI g.2.f_at)])),(c,gB 5 Spot.enc b.1)]:Hp) (by kernel_rfl) (aa (vI (w64 ((w64 (10*(a:Int)))+g.1))) (aL (.d (.agg (Window.enc (⟨(w64 (10*(a:Int))),(w64 ((w64 (10*(a:Int)))+g.1))⟩:Window)))) wz (by kernel_rfl) (aa (.ref (av 0) 0 0) (gL (([0,1,2,3,5]:List Int).map eI) ic AV rfl rfl rfl rfl rfl wz ?_))))
    obtain ⟨h,Ä,f⟩:=bind_some f
    refine jF 0 [0] il ft (gX Ä) rfl Ll rfl (by kernel_rfl) (by kernel_rfl) (by kernel_rfl) (by kernel_rfl) (by kernel_rfl) (by kernel_rfl) (by kernel_rfl) (by decide) (by kernel_rfl) wz (vI h.1) (by kernel_rfl) ([((av 0),some (.cells 2 [(vL eI h.2.L),(vI h.2.f_at)])),(c,gB 5 Spot.enc b.1)]:Hp) (by kernel_rfl) (aL (.agg [(vS j),(vI (w64 (10*(a:Int)))),(vI (w64 ((w64 (10*(a:Int)))+g.1))),(vI h.1),.nil]) wz (by kernel_rfl) (dz 0 (.inl rfl) z40 rfl wz (λw=>gp 0 il ft 2 zA rfl rfl [(vS j),(vI (w64 (10*(a:Int)))),(vI (w64 ((w64 (10*(a:Int)))+g.1))),(vI h.1),.nil] rfl wz (af (ak (ai (gL (([(⟨#[99,105,116,121]⟩:ByteArray),(⟨#[109,97,108,108]⟩:ByteArray)]:List ByteArray).map eS) wW LY rfl rfl rfl rfl rfl wz (bQ Et rfl wz (aa (vI 0) (af (jJ (λÈ => ?_))))))))))))
    obtain ⟨Ë,M,f⟩:=bind_some f
    obtain ⟨Á,M⟩:=bn M
    refine fV (σ:=(List ByteArray)×(List Int)×Int) (N:=Nm) (λp=>(λ(e:(List ByteArray)×(List Int)×Int) (l:Nm)=>([(0,(.ref (av 0) 0 0)),(3,(gV c 5 b.1)),(6,(.ref w 0 0)),(9,(vL eS ([(⟨#[115,97]⟩:ByteArray),(⟨#[115,98]⟩:ByteArray),(⟨#[115,99]⟩:ByteArray),(⟨#[115,100]⟩:ByteArray),(⟨#[115,101]⟩:ByteArray)]:List ByteArray))),(10,(vI (([(⟨#[115,97]⟩:ByteArray),(⟨#[115,98]⟩:ByteArray),(⟨#[115,99]⟩:ByteArray),(⟨#[115,100]⟩:ByteArray),(⟨#[115,101]⟩:ByteArray)]:List ByteArray).length:Int))),(11,(vI (a:Int)))]:SL_)) p.1 p.2) (λp=>(λ(e:(List ByteArray)×(List Int)×Int) (l:Nm)=>([((av 0),some (.cells 2 [(vL eI e.2.1),(vI e.2.2)])),(c,gB 5 Spot.enc b.1),(w,some (.cells 5 [(vS j),(vI (w64 (10*(a:Int)))),(vI (w64 ((w64 (10*(a:Int)))+g.1))),(vI h.1),(gV l 1 e.1)])),(l,gB 1 eS e.1)]:Hp)) p.1 p.2) (λ(o:Nat)=>(λp=>(λ(e:(List ByteArray)×(List Int)×Int) (l:Nm)=>([(0,(.ref (av 0) 0 0)),(3,(gV c 5 b.1)),(6,(.ref w 0 0)),(9,(vL eS ([(⟨#[115,97]⟩:ByteArray),(⟨#[115,98]⟩:ByteArray),(⟨#[115,99]⟩:ByteArray),(⟨#[115,100]⟩:ByteArray),(⟨#[115,101]⟩:ByteArray)]:List ByteArray))),(10,(vI (([(⟨#[115,97]⟩:ByteArray),(⟨#[115,98]⟩:ByteArray),(⟨#[115,99]⟩:ByteArray),(⟨#[115,100]⟩:ByteArray),(⟨#[115,101]⟩:ByteArray)]:List ByteArray).length:Int))),(11,(vI (a:Int))),(32,(vL eS ([(⟨#[99,105,116,121]⟩:ByteArray),(⟨#[109,97,108,108]⟩:ByteArray)]:List ByteArray))),(33,(vI (([(⟨#[99,105,116,121]⟩:ByteArray),(⟨#[109,97,108,108]⟩:ByteArray)]:List ByteArray).length:Int))),(34,(vI (o:Int)))]:SL_)) p.1 p.2)) (λk x s=>gM k x s) Ë ([(⟨#[99,105,116,121]⟩:ByteArray),(⟨#[109,97,108,108]⟩:ByteArray)]:List ByteArray) ((([]:List ByteArray),h.2.L,h.2.f_at),È) M rfl (aK rfl) ?_ ?_
    ·rintro ⟨o,P,e,l⟩ ⟨y,t⟩
     dsimp only at y t
     cases P with
     | nil =>
      obtain rfl:=ae y
      refine ai (aa (vB (decide ((o:Int)<(([(⟨#[99,105,116,121]⟩:ByteArray),(⟨#[109,97,108,108]⟩:ByteArray)]:List ByteArray).length:Int)))) (af ?_))
      refine ak (ay rfl (drop_nil t) (aY ?_))
      exact aW (e,l) rfl rfl (aK rfl)
     | cons H P =>
      obtain ⟨À,v,y⟩:=bind_some y
      refine ai (aa (vB (decide ((o:Int)<(([(⟨#[99,105,116,121]⟩:ByteArray),(⟨#[109,97,108,108]⟩:ByteArray)]:List ByteArray).length:Int)))) (af ?_))
      refine ak (aA rfl (bE t) (ax ?_))
      unfold gM at v
      refine ak (aQ (ai (dI wW rfl rfl (bN t) rfl wz (bH sz9 ag9 rfl (vS H) rfl wz (aa (vS H) (af (ai (aa (.ref (av 0) 0 0) ?_))))))))
      obtain ⟨q,Å,v⟩:=bind_some v
      refine jF 0 [0] il ft (lN Å) rfl hb11 rfl (by kernel_rfl) (by kernel_rfl) (by kernel_rfl) (by kernel_rfl) (by kernel_rfl) (by kernel_rfl) (by kernel_rfl) (by decide) (by kernel_rfl) wz (vB q.1) (by kernel_rfl) ([((av 0),some (.cells 2 [(vL eI q.2.L),(vI q.2.f_at)])),(c,gB 5 Spot.enc b.1),(w,some (.cells 5 [(vS j),(vI (w64 (10*(a:Int)))),(vI (w64 ((w64 (10*(a:Int)))+g.1))),(vI h.1),(gV l 1 e.1)])),(l,gB 1 eS e.1)]:Hp) (by kernel_rfl) (af ?_)
      obtain ⟨Q,n,v⟩:=bind_some v
      refine kr (β:=Nm) (λ(B:Nm)=>([(0,(.ref (av 0) 0 0)),(3,(gV c 5 b.1)),(6,(.ref w 0 0)),(9,(vL eS ([(⟨#[115,97]⟩:ByteArray),(⟨#[115,98]⟩:ByteArray),(⟨#[115,99]⟩:ByteArray),(⟨#[115,100]⟩:ByteArray),(⟨#[115,101]⟩:ByteArray)]:List ByteArray))),(10,(vI (([(⟨#[115,97]⟩:ByteArray),(⟨#[115,98]⟩:ByteArray),(⟨#[115,99]⟩:ByteArray),(⟨#[115,100]⟩:ByteArray),(⟨#[115,101]⟩:ByteArray)]:List ByteArray).length:Int))),(11,(vI (a:Int))),(32,(vL eS ([(⟨#[99,105,116,121]⟩:ByteArray),(⟨#[109,97,108,108]⟩:ByteArray)]:List ByteArray))),(33,(vI (([(⟨#[99,105,116,121]⟩:ByteArray),(⟨#[109,97,108,108]⟩:ByteArray)]:List ByteArray).length:Int))),(34,(vI (o:Int)))]:SL_)) (λ(B:Nm)=>([((av 0),some (.cells 2 [(vL eI q.2.L),(vI q.2.f_at)])),(c,gB 5 Spot.enc b.1),(w,some (.cells 5 [(vS j),(vI (w64 (10*(a:Int)))),(vI (w64 ((w64 (10*(a:Int)))+g.1))),(vI h.1),(gV B 1 Q)])),(B,gB 1 eS Q)]:Hp)) (λ_=>True) ?_ ?_
      ·rcases aj n with⟨J,n⟩|⟨J,n⟩
       ·refine aA rfl J (au (aI Ih rfl 4 rfl wz (aH 0 2 il ft Jn M6 rfl rfl (gV l 1 e.1) rfl wz (aa (vS H) (gL (([H]:List ByteArray).map eS) wW LY rfl rfl rfl rfl rfl wz ?_)))))
        obtain ⟨Z,Æ,n⟩:=bind_some n
        refine jr 0 il ft (i:=3) el38 el38 sz9 z9 rfl (by decide) by9 (by decide) (λ_=>rfl) rfl rfl rfl Æ wz (λW=>aI Ih rfl 4 rfl wz (gp 0 il ft 2 Jn rfl rfl [(vS j),(vI (w64 (10*(a:Int)))),(vI (w64 ((w64 (10*(a:Int)))+g.1))),(vI h.1),(gV W 1 Z)] (stC_g rfl) wz (af ?_)))
        obtain rfl:=ae n
        exact aW W trivial rfl (aK rfl)
       ·refine ay rfl J (ax ?_)
        obtain rfl:=ae n
        exact aW l trivial rfl (aK rfl)
      ·rintro B _ Y R z A
       refine aR _ z A (au (dS (bC t Á) wz rfl (aa (vI ((o+1:Nat):Int)) (af ?_))))
       obtain rfl:=ae v
       exact aZ (o+1,P,(Q,q.2.L,q.2.f_at),B) ⟨y,aV t⟩ (ls_ _) rfl (aK rfl)
    ·rintro ⟨e,l⟩ O Y R z A
     subst O
     refine aR _ z A (fQ 3 rfl (PN 3 2 [(vS j),(vI (w64 (10*(a:Int)))),(vI (w64 ((w64 (10*(a:Int)))+g.1))),(vI h.1),(vL eS e.1)] rfl rfl (λS hS=>mX (rfl) (mX (rfl) (mX (rfl) (mX (rfl) (mX (hS) (rfl)))))) (au (aa (gV c 5 b.1) (aH 0 2 il ft zA JJ rfl rfl (.d (.agg (Spot.enc (⟨j,(⟨(w64 (10*(a:Int))),(w64 ((w64 (10*(a:Int)))+g.1))⟩:Window),h.1,e.1⟩:Spot)))) rfl wz (gL (([(⟨j,(⟨(w64 (10*(a:Int))),(w64 ((w64 (10*(a:Int)))+g.1))⟩:Window),h.1,e.1⟩:Spot)]:List Spot).map Spot.enc) LK ez26 rfl rfl rfl rfl rfl wz ?_))))))
     obtain ⟨T,Ç,f⟩:=bind_some f
     refine jr 0 il ft (i:=1) el26 el26 zA z40 rfl (by decide) by40 (by decide) (λ_=>rfl) rfl rfl rfl Ç wz (λX=>aa (gV X 5 T) (af (au (dS (bC m U) wz rfl (aa (vI ((a+1:Nat):Int)) (af ?_))))))
     obtain rfl:=ae f
     exact aZ (a+1,G,(T,e.2.1,e.2.2),X) ⟨u,aV m⟩ (ls_ _) rfl (aK rfl)
 ·rintro ⟨b,c⟩ O Y R z A
  subst O
  refine aR _ z A (ai (aa (gV c 5 b.1) (aa (gV c 5 b.1) (af (fQ 1 rfl (dx 2 1 rfl rfl (dx 3 1 rfl rfl (dx 52 1 rfl rfl ?_))))))))
  obtain rfl:=ae F
  exact aC (M3 (.inr rfl) [(vL Spot.enc b.1)] _ [0] [av 0] ⟨rfl,trivial⟩ (.cons (qa rfl rfl) (.nil)) (by kernel_rfl) ⟨(by kernel_rfl),trivial⟩ (by decide) (by kernel_rfl))
theorem zS {d:Stream} {b:(List ByteArray)} {r:ByteArray×Stream} (a:mF d b=some r) :
  FnM Tryz.prog 13 [(.ref (av 0) 0 0),(vL eS b)] [(.cells 2 [(vL eI d.L),(vI d.f_at)])] (vS r.1) [some (.cells 2 [(vL eI r.2.L),(vI r.2.f_at)])]:=by
 refine FnM.of_wH ⟨Tryz.prog,12,[],[]⟩ rfl Tryz.func13 rfl rfl (lb_ rfl) (by kernel_rfl) ?_
 unfold mF at a
 refine ai (aa (vS (⟨#[]⟩:ByteArray)) (af (ai (aa (vL eS b) (aa (.ref (av 0) 0 0) (aa (vL eS b) (bQ Et rfl wz ?_)))))))
 obtain ⟨c,f,a⟩:=bind_some a
 refine jF 0 [0] il ft (oG f) rfl hb36 rfl (by kernel_rfl) (by kernel_rfl) (by kernel_rfl) (by kernel_rfl) (by kernel_rfl) (by kernel_rfl) (by kernel_rfl) (by decide) (by kernel_rfl) wz (vI c.1) (by kernel_rfl) ([((av 0),some (.cells 2 [(vL eI c.2.L),(vI c.2.f_at)]))]:Hp) (by kernel_rfl) ?_
 obtain ⟨e,g,a⟩:=bind_some a
 refine dI wW rfl rfl g rfl wz (bH sz9 ag9 rfl (vS e) rfl wz (aa (vS e) (af ?_)))
 obtain rfl:=ae a
 exact aC (M3 (.inr rfl) [(vS e)] _ [0] [av 0] ⟨rfl,trivial⟩ (.cons (qa rfl rfl) (.nil)) (by kernel_rfl) ⟨(by kernel_rfl),trivial⟩ (by decide) (by kernel_rfl))
theorem rM {K:Stream} {X:Int} {r:(List Campaign)×Stream} (B:dZ K X=some r) :
  FnM Tryz.prog 5 [(.ref (av 0) 0 0),(vI X)] [(.cells 2 [(vL eI K.L),(vI K.f_at)])] (vL Campaign.enc r.1) [some (.cells 2 [(vL eI r.2.L),(vI r.2.f_at)])]:=by
 refine FnM.of_wH ⟨Tryz.prog,63,[],[]⟩ rfl Tryz.func5 rfl rfl (lb_ rfl) (by kernel_rfl) ?_
 unfold dZ at B
 refine ai (aa .nil (af (ai (aa .nil (af (ak (ai (gL (([(⟨#[99,97]⟩:ByteArray),(⟨#[99,98]⟩:ByteArray),(⟨#[99,99]⟩:ByteArray),(⟨#[99,100]⟩:ByteArray)]:List ByteArray).map eS) wW LY rfl rfl rfl rfl rfl wz (aa (vI X) ?_)))))))))
 obtain ⟨o,Ð,B⟩:=bind_some B
 refine C8 Et sz9 (λ_=>rfl) rfl rfl Ð wz (bQ Et rfl wz (aa (vI 0) (af (jJ (λÓ => ?_)))))
 obtain ⟨Õ,R,B⟩:=bind_some B
 obtain ⟨Á,R⟩:=bn R
 refine fV (σ:=(List Campaign)×(List Int)×Int) (N:=Nm) (λp=>(λ(a:(List Campaign)×(List Int)×Int) (b:Nm)=>([(5,(gV b 8 a.1))]:SL_)) p.1 p.2) (λp=>(λ(a:(List Campaign)×(List Int)×Int) (b:Nm)=>([((av 0),some (.cells 2 [(vL eI a.2.1),(vI a.2.2)])),(b,gB 8 Campaign.enc a.1)]:Hp)) p.1 p.2) (λ(q:Nat)=>(λp=>(λ(a:(List Campaign)×(List Int)×Int) (b:Nm)=>([(0,(.ref (av 0) 0 0)),(5,(gV b 8 a.1)),(13,(vL eS o)),(14,(vI (o.length:Int))),(15,(vI (q:Int)))]:SL_)) p.1 p.2)) (λk x s=>eB k x s) Õ o ((([]:List Campaign),K.L,K.f_at),Ó) R rfl (aK rfl) ?_ ?_
 ·rintro ⟨q,M,a,b⟩ ⟨C,u⟩
  dsimp only at C u
  cases M with
  | nil =>
   obtain rfl:=ae C
   refine ai (aa (vB (decide ((q:Int)<(o.length:Int)))) (af ?_))
   refine ak (ay rfl (drop_nil u) (aY ?_))
   exact aW (a,b) rfl rfl (aK rfl)
  | cons n M =>
   obtain ⟨Æ,c,C⟩:=bind_some C
   refine ai (aa (vB (decide ((q:Int)<(o.length:Int)))) (af ?_))
   refine ak (aA rfl (bE u) (ax ?_))
   unfold eB at c
   refine ak (aQ (ai (dI wW rfl rfl (bN u) rfl wz (bH sz9 ag9 rfl (vS n) rfl wz (aa (vS n) (af (ak (ai (aa (.ref (av 0) 0 0) ?_)))))))))
   obtain ⟨J,È,c⟩:=bind_some c
   refine jF 0 [0] il ft (lN È) rfl hb11 rfl (by kernel_rfl) (by kernel_rfl) (by kernel_rfl) (by kernel_rfl) (by kernel_rfl) (by kernel_rfl) (by kernel_rfl) (by decide) (by kernel_rfl) wz (vB J.1) (by kernel_rfl) ([((av 0),some (.cells 2 [(vL eI J.2.L),(vI J.2.f_at)])),(b,gB 8 Campaign.enc a.1)]:Hp) (by kernel_rfl) (af ?_)
   rcases aj c with⟨P,c⟩|⟨P,c⟩
   ·refine aA rfl P (aY (au (dS (bC u Á) wz rfl (aa (vI ((q+1:Nat):Int)) (af ?_)))))
    obtain rfl:=ae c
    exact aZ (q+1,M,(a.1,J.2.L,J.2.f_at),b) ⟨C,aV u⟩ (ls_ _) rfl (aK rfl)
   ·refine ay rfl P (ax (ai (aa (vS n) (aa (.ref (av 0) 0 0) (gL (([(⟨#[]⟩:ByteArray),(⟨#[]⟩:ByteArray),(⟨#[99,97,114,115]⟩:ByteArray),(⟨#[102,111,111,100]⟩:ByteArray)]:List ByteArray).map eS) wW LY rfl rfl rfl rfl rfl wz ?_)))))
    obtain ⟨j,É,c⟩:=bind_some c
    refine jF 0 [0] il ft (zS É) rfl hb13 rfl (by kernel_rfl) (by kernel_rfl) (by kernel_rfl) (by kernel_rfl) (by kernel_rfl) (by kernel_rfl) (by kernel_rfl) (by decide) (by kernel_rfl) wz (vS j.1) (by kernel_rfl) ([((av 0),some (.cells 2 [(vL eI j.2.L),(vI j.2.f_at)])),(b,gB 8 Campaign.enc a.1)]:Hp) (by kernel_rfl) (aa (.ref (av 0) 0 0) (gL (([0,0,10,20]:List Int).map eI) ic AV rfl rfl rfl rfl rfl wz ?_))
    obtain ⟨g,Ê,c⟩:=bind_some c
    refine jF 0 [0] il ft (gX Ê) rfl Ll rfl (by kernel_rfl) (by kernel_rfl) (by kernel_rfl) (by kernel_rfl) (by kernel_rfl) (by kernel_rfl) (by kernel_rfl) (by decide) (by kernel_rfl) wz (vI g.1) (by kernel_rfl) ([((av 0),some (.cells 2 [(vL eI g.2.L),(vI g.2.f_at)])),(b,gB 8 Campaign.enc a.1)]:Hp) (by kernel_rfl) (aa (.ref (av 0) 0 0) (gL (([30,50,60,100]:List Int).map eI) ic AV rfl rfl rfl rfl rfl wz ?_))
    obtain ⟨h,Ë,c⟩:=bind_some c
    refine jF 0 [0] il ft (gX Ë) rfl Ll rfl (by kernel_rfl) (by kernel_rfl) (by kernel_rfl) (by kernel_rfl) (by kernel_rfl) (by kernel_rfl) (by kernel_rfl) (by decide) (by kernel_rfl) wz (vI h.1) (by kernel_rfl) ([((av 0),some (.cells 2 [(vL eI h.2.L),(vI h.2.f_at)])),(b,gB 8 Campaign.enc a.1)]:Hp) (by kernel_rfl) (aL (.d (.agg (Window.enc (⟨g.1,h.1⟩:Window)))) wz (by kernel_rfl) (aa (.ref (av 0) 0 0) (gL (([0,1,2,3,4,6]:List Int).map eI) ic AV rfl rfl rfl rfl rfl wz ?_)))
    obtain ⟨l,Ì,c⟩:=bind_some c
    refine jF 0 [0] il ft (gX Ì) rfl Ll rfl (by kernel_rfl) (by kernel_rfl) (by kernel_rfl) (by kernel_rfl) (by kernel_rfl) (by kernel_rfl) (by kernel_rfl) (by decide) (by kernel_rfl) wz (vI l.1) (by kernel_rfl) ([((av 0),some (.cells 2 [(vL eI l.2.L),(vI l.2.f_at)])),(b,gB 8 Campaign.enc a.1)]:Hp) (by kernel_rfl) (aa (.ref (av 0) 0 0) (gL (([0,1,2,3,9]:List Int).map eI) ic AV rfl rfl rfl rfl rfl wz ?_))
    obtain ⟨m,Í,c⟩:=bind_some c
    refine jF 0 [0] il ft (gX Í) rfl Ll rfl (by kernel_rfl) (by kernel_rfl) (by kernel_rfl) (by kernel_rfl) (by kernel_rfl) (by kernel_rfl) (by kernel_rfl) (by decide) (by kernel_rfl) wz (vI m.1) (by kernel_rfl) ([((av 0),some (.cells 2 [(vL eI m.2.L),(vI m.2.f_at)])),(b,gB 8 Campaign.enc a.1)]:Hp) (by kernel_rfl) (aa (.ref (av 0) 0 0) (gL (([0,500,1000,1500]:List Int).map eI) ic AV rfl rfl rfl rfl rfl wz ?_))
    obtain ⟨e,Î,c⟩:=bind_some c
    refine jF 0 [0] il ft (gX Î) rfl Ll rfl (by kernel_rfl) (by kernel_rfl) (by kernel_rfl) (by kernel_rfl) (by kernel_rfl) (by kernel_rfl) (by kernel_rfl) (by decide) (by kernel_rfl) wz (vI e.1) (by kernel_rfl) ([((av 0),some (.cells 2 [(vL eI e.2.L),(vI e.2.f_at)])),(b,gB 8 Campaign.enc a.1)]:Hp) (by kernel_rfl) (aL (.agg [(vS n),(vS j.1),(vI g.1),(vI h.1),.nil,(vI l.1),(vI m.1),(vI e.1)]) wz (by kernel_rfl) (dz 0 (.inl rfl) z58 rfl wz (λv=>gp 0 il ft 2 wQ rfl rfl [(vS n),(vS j.1),(vI g.1),(vI h.1),.nil,(vI l.1),(vI m.1),(vI e.1)] rfl wz (af (ak (ai (gL (([(⟨#[99,105,116,121]⟩:ByteArray),(⟨#[109,97,108,108]⟩:ByteArray)]:List ByteArray).map eS) wW LY rfl rfl rfl rfl rfl wz (bQ Et rfl wz (aa (vI 0) (af (aR (H0:=([((av 0),some (.cells 2 [(vL eI e.2.L),(vI e.2.f_at)])),(b,gB 8 Campaign.enc a.1),(v,some (.cells 8 [(vS n),(vS j.1),(vI g.1),(vI h.1),.nil,(vI l.1),(vI m.1),(vI e.1)]))]:Hp)) ([(0,(.ref (av 0) 0 0)),(5,(gV b 8 a.1)),(8,(.ref v 0 0)),(13,(vL eS o)),(14,(vI (o.length:Int))),(15,(vI (q:Int))),(42,(vL eS ([(⟨#[99,105,116,121]⟩:ByteArray),(⟨#[109,97,108,108]⟩:ByteArray)]:List ByteArray))),(43,(vI (([(⟨#[99,105,116,121]⟩:ByteArray),(⟨#[109,97,108,108]⟩:ByteArray)]:List ByteArray).length:Int))),(44,(vI 0))]:SL_) (by kernel_rfl) (Br (by kernel_rfl)) (jJ (λÔ => ?_)))))))))))))
    obtain ⟨Ö,T,c⟩:=bind_some c
    obtain ⟨Ç,T⟩:=bn T
    refine fV (σ:=(List ByteArray)×(List Int)×Int) (N:=Nm) (λp=>(λ(f:(List ByteArray)×(List Int)×Int) (t:Nm)=>([(0,(.ref (av 0) 0 0)),(5,(gV b 8 a.1)),(8,(.ref v 0 0)),(13,(vL eS o)),(14,(vI (o.length:Int))),(15,(vI (q:Int)))]:SL_)) p.1 p.2) (λp=>(λ(f:(List ByteArray)×(List Int)×Int) (t:Nm)=>([((av 0),some (.cells 2 [(vL eI f.2.1),(vI f.2.2)])),(b,gB 8 Campaign.enc a.1),(v,some (.cells 8 [(vS n),(vS j.1),(vI g.1),(vI h.1),(gV t 1 f.1),(vI l.1),(vI m.1),(vI e.1)])),(t,gB 1 eS f.1)]:Hp)) p.1 p.2) (λ(y:Nat)=>(λp=>(λ(f:(List ByteArray)×(List Int)×Int) (t:Nm)=>([(0,(.ref (av 0) 0 0)),(5,(gV b 8 a.1)),(8,(.ref v 0 0)),(13,(vL eS o)),(14,(vI (o.length:Int))),(15,(vI (q:Int))),(42,(vL eS ([(⟨#[99,105,116,121]⟩:ByteArray),(⟨#[109,97,108,108]⟩:ByteArray)]:List ByteArray))),(43,(vI (([(⟨#[99,105,116,121]⟩:ByteArray),(⟨#[109,97,108,108]⟩:ByteArray)]:List ByteArray).length:Int))),(44,(vI (y:Int)))]:SL_)) p.1 p.2)) (λk x s=>gQ k x s) Ö ([(⟨#[99,105,116,121]⟩:ByteArray),(⟨#[109,97,108,108]⟩:ByteArray)]:List ByteArray) ((([]:List ByteArray),e.2.L,e.2.f_at),Ô) T rfl (aK rfl) ?_ ?_
    ·rintro ⟨y,W,f,t⟩ ⟨F,A⟩
     dsimp only at F A
     cases W with
     | nil =>
      obtain rfl:=ae F
      refine ai (aa (vB (decide ((y:Int)<(([(⟨#[99,105,116,121]⟩:ByteArray),(⟨#[109,97,108,108]⟩:ByteArray)]:List ByteArray).length:Int)))) (af ?_))
      refine ak (ay rfl (drop_nil A) (aY ?_))
      exact aW (f,t) rfl rfl (aK rfl)
     | cons O W =>
      obtain ⟨Æ,E,F⟩:=bind_some F
      refine ai (aa (vB (decide ((y:Int)<(([(⟨#[99,105,116,121]⟩:ByteArray),(⟨#[109,97,108,108]⟩:ByteArray)]:List ByteArray).length:Int)))) (af ?_))
      refine ak (aA rfl (bE A) (ax ?_))
      unfold gQ at E
      refine ak (aQ (ai (dI wW rfl rfl (bN A) rfl wz (bH sz9 ag9 rfl (vS O) rfl wz (aa (vS O) (af (ai (aa (.ref (av 0) 0 0) ?_))))))))
      obtain ⟨z,Ï,E⟩:=bind_some E
      refine jF 0 [0] il ft (lN Ï) rfl hb11 rfl (by kernel_rfl) (by kernel_rfl) (by kernel_rfl) (by kernel_rfl) (by kernel_rfl) (by kernel_rfl) (by kernel_rfl) (by decide) (by kernel_rfl) wz (vB z.1) (by kernel_rfl) ([((av 0),some (.cells 2 [(vL eI z.2.L),(vI z.2.f_at)])),(b,gB 8 Campaign.enc a.1),(v,some (.cells 8 [(vS n),(vS j.1),(vI g.1),(vI h.1),(gV t 1 f.1),(vI l.1),(vI m.1),(vI e.1)])),(t,gB 1 eS f.1)]:Hp) (by kernel_rfl) (af ?_)
      obtain ⟨Y,w,E⟩:=bind_some E
      refine kr (β:=Nm) (λ(I:Nm)=>([(0,(.ref (av 0) 0 0)),(5,(gV b 8 a.1)),(8,(.ref v 0 0)),(13,(vL eS o)),(14,(vI (o.length:Int))),(15,(vI (q:Int))),(42,(vL eS ([(⟨#[99,105,116,121]⟩:ByteArray),(⟨#[109,97,108,108]⟩:ByteArray)]:List ByteArray))),(43,(vI (([(⟨#[99,105,116,121]⟩:ByteArray),(⟨#[109,97,108,108]⟩:ByteArray)]:List ByteArray).length:Int))),(44,(vI (y:Int)))]:SL_)) (λ(I:Nm)=>([((av 0),some (.cells 2 [(vL eI z.2.L),(vI z.2.f_at)])),(b,gB 8 Campaign.enc a.1),(v,some (.cells 8 [(vS n),(vS j.1),(vI g.1),(vI h.1),(gV I 1 Y),(vI l.1),(vI m.1),(vI e.1)])),(I,gB 1 eS Y)]:Hp)) (λ_=>True) ?_ ?_
      ·rcases aj w with⟨Q,w⟩|⟨Q,w⟩
       ·refine aA rfl Q (au (aI Ir rfl 4 rfl wz (aH 0 2 il ft Jn M6 rfl rfl (gV t 1 f.1) rfl wz (aa (vS O) (gL (([O]:List ByteArray).map eS) wW LY rfl rfl rfl rfl rfl wz ?_)))))
        obtain ⟨Å,Ñ,w⟩:=bind_some w
        refine jr 0 il ft (i:=3) el38 el38 sz9 z9 rfl (by decide) by9 (by decide) (λ_=>rfl) rfl rfl rfl Ñ wz (λÂ=>aI Ir rfl 4 rfl wz (gp 0 il ft 2 Jn rfl rfl [(vS n),(vS j.1),(vI g.1),(vI h.1),(gV Â 1 Å),(vI l.1),(vI m.1),(vI e.1)] (stC_g rfl) wz (af ?_)))
        obtain rfl:=ae w
        exact aW Â trivial rfl (aK rfl)
       ·refine ay rfl Q (ax ?_)
        obtain rfl:=ae w
        exact aW t trivial rfl (aK rfl)
      ·rintro I _ Ä Z G H
       refine aR _ G H (au (dS (bC A Ç) wz rfl (aa (vI ((y+1:Nat):Int)) (af ?_))))
       obtain rfl:=ae E
       exact aZ (y+1,W,(Y,z.2.L,z.2.f_at),I) ⟨F,aV A⟩ (ls_ _) rfl (aK rfl)
    ·rintro ⟨f,t⟩ U Ä Z G H
     subst U
     refine aR _ G H (fQ 3 rfl (PN 3 2 [(vS n),(vS j.1),(vI g.1),(vI h.1),(vL eS f.1),(vI l.1),(vI m.1),(vI e.1)] rfl rfl (λS hS=>mX (rfl) (mX (rfl) (mX (rfl) (mX (rfl) (mX (hS) (mX (rfl) (mX (rfl) (mX (rfl) (rfl))))))))) (au (aa (gV b 8 a.1) (aH 0 2 il ft wQ FM rfl rfl (.d (.agg (Campaign.enc (⟨n,j.1,(⟨g.1,h.1⟩:Window),f.1,l.1,m.1,e.1⟩:Campaign)))) rfl wz (gL (([(⟨n,j.1,(⟨g.1,h.1⟩:Window),f.1,l.1,m.1,e.1⟩:Campaign)]:List Campaign).map Campaign.enc) F8 ez28 rfl rfl rfl rfl rfl wz ?_))))))
     obtain ⟨À,Ò,c⟩:=bind_some c
     refine jr 0 il ft (i:=1) el28 el28 wQ z58 rfl (by decide) by58 (by decide) (λ_=>rfl) rfl rfl rfl Ò wz (λÃ=>aa (gV Ã 8 À) (af (au (dS (bC u Á) wz rfl (aa (vI ((q+1:Nat):Int)) (af ?_))))))
     obtain rfl:=ae c
     exact aZ (q+1,M,(À,f.2.1,f.2.2),Ã) ⟨C,aV u⟩ (ls_ _) rfl (aK rfl)
 ·rintro ⟨a,b⟩ U Ä Z G H
  subst U
  refine aR _ G H (ai (aa (gV b 8 a.1) (aa (gV b 8 a.1) (af (fQ 1 rfl (dx 4 1 rfl rfl (dx 5 1 rfl rfl (dx 62 1 rfl rfl ?_))))))))
  obtain rfl:=ae B
  exact aC (M3 (.inr rfl) [(vL Campaign.enc a.1)] _ [0] [av 0] ⟨rfl,trivial⟩ (.cons (qa rfl rfl) (.nil)) (by kernel_rfl) ⟨(by kernel_rfl),trivial⟩ (by decide) (by kernel_rfl))
theorem gy {e:ByteArray} {r:Bool} (g:fO e=some r) :
  FnM Tryz.prog 52 [(vS e)] [] (vB r) []:=by
 refine FnM.of_wH ⟨Tryz.prog,48,[],[]⟩ rfl Tryz.func52 rfl rfl (lb_ rfl) (by kernel_rfl) ?_
 unfold fO at g
 refine ai (aa (vB false) (af (ak (ai (aa (vI 0) (af ?_))))))
 obtain ⟨L,E,g⟩:=bind_some g
 obtain ⟨K,E⟩:=bW E
 refine dY (λ(c:Int)=>[(0,(vS e))]) (λ(c:Int)=>[]) (λ(l:Nat)=>(λ(c:Int)=>[(0,(vS e)),(3,(vI c))])) (λs=>jY e s) L K 0 E rfl (aK rfl) ?_ ?_
 ·rintro ⟨l,c⟩ h
  dsimp only at h
  cases l with
  | zero=>cases h
  | succ l =>
   obtain ⟨N,f,h⟩:=bind_some h
   unfold jY at f
   refine ak (ai (aa (vI c) (aa (vS e) (EL un9 rfl wz (aa (vB (decide (c<(e.size:Int)))) (af ?_))))))
   rcases aj f with⟨m,f⟩|⟨m,f⟩
   ·refine aA rfl m (ax (ak (aQ (ai (aa (vS e) (aa (vI c) ?_))))))
    obtain ⟨a,J,f⟩:=bind_some f
    refine zD un9 rfl rfl J wz (aa (.d (.int .u8 (a.toNat:Int))) (af (ak ?_)))
    obtain ⟨M,b,f⟩:=bind_some f
    refine aU [(0,(vS e)),(3,(vI c)),(40,(vB M))] [] ?_ ?_
    ·refine au (aa (.d (.int .u8 (a.toNat:Int))) (aa (vB (decide ((a.toNat:Int)>=97))) ?_))
     rcases aj b with⟨n,b⟩|⟨n,b⟩
     ·refine aB rfl n wz (aL (.d (.int .u8 (a.toNat:Int))) wa rfl (aL (vB (decide ((a.toNat:Int)<=122))) wa rfl (aa (vB (decide ((a.toNat:Int)<=122))) ?_)))
      rcases aj b with⟨o,b⟩|⟨o,b⟩
      ·refine aB rfl o wz (ah (ah (ah (bU (wn rfl rfl) (bU (wn rfl rfl) (bU (wn rfl rfl) (bU (wn rfl rfl) (bU (wn rfl rfl) (bU (wn rfl rfl) (bU (wn rfl rfl) (bU (wn rfl rfl) (bU (wn rfl rfl) (bU (wn rfl rfl) (bU (wn rfl rfl) (bU (wn rfl rfl) (bU (wn rfl rfl) (bU (wn rfl rfl) (ah (aa (vB true) (aa (vB false) (af ?_)))))))))))))))))))))
       obtain rfl:=ae b
       exact cu
      ·refine aB rfl o wz (aL (vI c) wa rfl (aL (vB (decide (c>0))) wa rfl ?_))
       rcases aj b with⟨p,b⟩|⟨p,b⟩
       ·refine aB rfl p wa (aL (.d (.int .u8 (a.toNat:Int))) wa rfl (aL (vB (decide ((a.toNat:Int)>=48))) wa rfl ?_))
        rcases aj b with⟨q,b⟩|⟨q,b⟩
        ·refine aB rfl q wa (aL (.d (.int .u8 (a.toNat:Int))) wa rfl (aL (vB (decide ((a.toNat:Int)<=57))) wa rfl (aL (vB (decide ((a.toNat:Int)<=57))) wa rfl ?_)))
         rcases aj b with⟨t,b⟩|⟨t,b⟩
         ·refine aB rfl t wa (ah (ah (aL (vB true) wa rfl (aL (vB true) wa rfl (ah (ah (aL (vB true) wa rfl (aL (vB true) wa rfl (aa (vB true) (aa (vB false) (af ?_)))))))))))
          obtain rfl:=ae b
          exact cu
         ·refine aB rfl t wa (aL (.d (.int .u8 (a.toNat:Int))) wa rfl (aL (vB ((a.toNat:Int)==45)) wa rfl (aL (vB ((a.toNat:Int)==45)) wa rfl ?_)))
          rcases aj b with⟨u,b⟩|⟨u,b⟩
          ·refine aB rfl u wa (ah (ah (aL (vB true) wa rfl (aL (vB true) wa rfl (aa (vB true) (aa (vB false) (af ?_)))))))
           obtain rfl:=ae b
           exact cu
          ·refine aB rfl u wa (aL (.d (.int .u8 (a.toNat:Int))) wa rfl (aL (vB ((a.toNat:Int)==95)) wa rfl (aL (vB ((a.toNat:Int)==95)) wa rfl (aL (vB ((a.toNat:Int)==95)) wa rfl (aa (vB ((a.toNat:Int)==95)) (aa (vB (!((a.toNat:Int)==95))) (af ?_)))))))
           obtain rfl:=ae b
           exact cu
        ·refine aB rfl q wa (ah (ah (aL (vB false) wa rfl (aL (vB false) wa rfl (aL (.d (.int .u8 (a.toNat:Int))) wa rfl (aL (vB ((a.toNat:Int)==45)) wa rfl (aL (vB ((a.toNat:Int)==45)) wa rfl ?_)))))))
         rcases aj b with⟨v,b⟩|⟨v,b⟩
         ·refine aB rfl v wa (ah (ah (aL (vB true) wa rfl (aL (vB true) wa rfl (aa (vB true) (aa (vB false) (af ?_)))))))
          obtain rfl:=ae b
          exact cu
         ·refine aB rfl v wa (aL (.d (.int .u8 (a.toNat:Int))) wa rfl (aL (vB ((a.toNat:Int)==95)) wa rfl (aL (vB ((a.toNat:Int)==95)) wa rfl (aL (vB ((a.toNat:Int)==95)) wa rfl (aa (vB ((a.toNat:Int)==95)) (aa (vB (!((a.toNat:Int)==95))) (af ?_)))))))
          obtain rfl:=ae b
          exact cu
       ·refine aB rfl p wa (ah (ah (ah (bU (wn rfl rfl) (bU (wn rfl rfl) (ah (ah (bU (wn rfl rfl) (bU (wn rfl rfl) (ah (ah (bU (wn rfl rfl) (bU (wn rfl rfl) (ah (aL (vB false) wa rfl (aa (vB false) (aa (vB true) (af ?_))))))))))))))))))
        obtain rfl:=ae b
        exact cu
     ·refine aB rfl n wz (ah (ah (aa (vB false) (aa (vB false) (aL (vI c) wa rfl (aL (vB (decide (c>0))) wa rfl ?_))))))
      rcases aj b with⟨w,b⟩|⟨w,b⟩
      ·refine aB rfl w wa (aL (.d (.int .u8 (a.toNat:Int))) wa rfl (aL (vB (decide ((a.toNat:Int)>=48))) wa rfl ?_))
       rcases aj b with⟨x,b⟩|⟨x,b⟩
       ·refine aB rfl x wa (aL (.d (.int .u8 (a.toNat:Int))) wa rfl (aL (vB (decide ((a.toNat:Int)<=57))) wa rfl (aL (vB (decide ((a.toNat:Int)<=57))) wa rfl ?_)))
        rcases aj b with⟨y,b⟩|⟨y,b⟩
        ·refine aB rfl y wa (ah (ah (aL (vB true) wa rfl (aL (vB true) wa rfl (ah (ah (aL (vB true) wa rfl (aL (vB true) wa rfl (aa (vB true) (aa (vB false) (af ?_)))))))))))
         obtain rfl:=ae b
         exact cu
        ·refine aB rfl y wa (aL (.d (.int .u8 (a.toNat:Int))) wa rfl (aL (vB ((a.toNat:Int)==45)) wa rfl (aL (vB ((a.toNat:Int)==45)) wa rfl ?_)))
         rcases aj b with⟨z,b⟩|⟨z,b⟩
         ·refine aB rfl z wa (ah (ah (aL (vB true) wa rfl (aL (vB true) wa rfl (aa (vB true) (aa (vB false) (af ?_)))))))
          obtain rfl:=ae b
          exact cu
         ·refine aB rfl z wa (aL (.d (.int .u8 (a.toNat:Int))) wa rfl (aL (vB ((a.toNat:Int)==95)) wa rfl (aL (vB ((a.toNat:Int)==95)) wa rfl (aL (vB ((a.toNat:Int)==95)) wa rfl (aa (vB ((a.toNat:Int)==95)) (aa (vB (!((a.toNat:Int)==95))) (af ?_)))))))
          obtain rfl:=ae b
          exact cu
       ·refine aB rfl x wa (ah (ah (aL (vB false) wa rfl (aL (vB false) wa rfl (aL (.d (.int .u8 (a.toNat:Int))) wa rfl (aL (vB ((a.toNat:Int)==45)) wa rfl (aL (vB ((a.toNat:Int)==45)) wa rfl ?_)))))))
        rcases aj b with⟨A,b⟩|⟨A,b⟩
        ·refine aB rfl A wa (ah (ah (aL (vB true) wa rfl (aL (vB true) wa rfl (aa (vB true) (aa (vB false) (af ?_)))))))
         obtain rfl:=ae b
         exact cu
        ·refine aB rfl A wa (aL (.d (.int .u8 (a.toNat:Int))) wa rfl (aL (vB ((a.toNat:Int)==95)) wa rfl (aL (vB ((a.toNat:Int)==95)) wa rfl (aL (vB ((a.toNat:Int)==95)) wa rfl (aa (vB ((a.toNat:Int)==95)) (aa (vB (!((a.toNat:Int)==95))) (af ?_)))))))
         obtain rfl:=ae b
         exact cu
      ·refine aB rfl w wa (ah (ah (ah (bU (wn rfl rfl) (bU (wn rfl rfl) (ah (ah (bU (wn rfl rfl) (bU (wn rfl rfl) (ah (ah (bU (wn rfl rfl) (bU (wn rfl rfl) (ah (aL (vB false) wa rfl (aa (vB false) (aa (vB true) (af ?_))))))))))))))))))
       obtain rfl:=ae b
       exact cu
    ·rintro ⟨⟩ _ G F j k
     refine aR _ j k ?_
     rcases aj f with⟨B,f⟩|⟨B,f⟩
     ·refine aA rfl B (ai (aa (vB false) (af ?_)))
      obtain rfl:=ae f
      obtain rfl:=ae h
      obtain rfl:=ae g
      exact aC (aO [(vB false)] ⟨rfl,trivial⟩)
     ·refine ay rfl B (ax (au (aa (vI c) (aa (vI (w64 (c+1))) (aa (vI (w64 (c+1))) (af ?_))))))
      obtain rfl:=ae f
      exact aZ (l,(w64 (c+1))) h (ls_ _) rfl (aK rfl)
   ·refine ay rfl m (aY ?_)
    obtain rfl:=ae f
    obtain rfl:=ae h
    exact aW (c) rfl rfl (aK rfl)
 ·rintro c I G F j k
  subst I
  refine aR _ j k (ak ?_)
  obtain ⟨H,i,g⟩:=bind_some g
  refine aU [(2,(vB H))] [] ?_ ?_
  ·refine au (aa (vS e) (aa (vB (sNe e (⟨#[]⟩:ByteArray))) ?_))
   rcases aj i with⟨C,i⟩|⟨C,i⟩
   ·refine aB rfl C wz (aL (vS e) wa rfl (EL un9 rfl wa (aL (vB (decide ((e.size:Int)<=40))) wa rfl (aa (vB (decide ((e.size:Int)<=40))) (aa (vB (decide ((e.size:Int)<=40))) (af ?_))))))
    obtain rfl:=ae i
    exact cu
   ·refine aB rfl C wz (ah (ah (ah (aa (vB false) (aa (vB false) (af ?_))))))
    obtain rfl:=ae i
    exact cu
  ·rintro ⟨⟩ _ G F j k
   refine aR _ j k ?_
   obtain rfl:=ae g
   exact aC (aO [(vB H)] ⟨rfl,trivial⟩)
theorem tF {a:Window} {r:Bool} (c:jy a=some r) :
  FnM Tryz.prog 65 [(.d (.agg (Window.enc a)))] [] (vB r) []:=by
 refine FnM.of_wH ⟨Tryz.prog,18,[],[]⟩ rfl Tryz.func65 rfl rfl (lb_ rfl) (by kernel_rfl) ?_
 unfold jy at c
 refine ai (jU 0 (.inl rfl) [(vI a.From),(vI a.To)] rfl rfl wz (λj=>aa (vB false) (af (ak ?_))))
 obtain ⟨g,b,c⟩:=bind_some c
 refine aU [(2,(vB g))] [(j,some (.cells 2 [(vI a.From),(vI a.To)]))] ?_ ?_
 ·refine au (aI mg rfl 0 rfl wz (aH 0 0 il ft sz3 ag3 rfl rfl (vI a.From) rfl wz (aa (vB (decide (a.From>=0))) ?_)))
  rcases aj b with⟨e,b⟩|⟨e,b⟩
  ·refine aB rfl e wz (aI mg rfl 0 rfl wa (aH 0 0 il ft sz3 ag3 rfl rfl (vI a.From) rfl wa (aI mI rfl 1 rfl wa (aH 0 0 il ft sz3 ag3 rfl rfl (vI a.To) rfl wa (aL (vB (decide (a.From<a.To))) wa rfl (aa (vB (decide (a.From<a.To))) ?_))))))
   rcases aj b with⟨f,b⟩|⟨f,b⟩
   ·refine aB rfl f wz (aI mI rfl 1 rfl wa (aH 0 0 il ft sz3 ag3 rfl rfl (vI a.To) rfl wa (aL (vB (decide (a.To<=345686400000))) wa rfl (aa (vB (decide (a.To<=345686400000))) (aa (vB (decide (a.To<=345686400000))) (af ?_))))))
    obtain rfl:=ae b
    exact cu
   ·refine aB rfl f wz (ah (ah (ah (aa (vB false) (aa (vB false) (af ?_))))))
    obtain rfl:=ae b
    exact cu
  ·refine aB rfl e wz (ah (ah (ah (ah (ah (aa (vB false) (aa (vB false) (ah (ah (ah (aa (vB false) (aa (vB false) (af ?_)))))))))))))
   obtain rfl:=ae b
   exact cu
 ·rintro ⟨⟩ _ l k h i
  refine aR _ h i ?_
  obtain rfl:=ae c
  exact aC (aO [(vB g)] ⟨rfl,trivial⟩)
theorem bA {a:Int} {e:Int} {b:Int} {r:Bool} (d:aX a e b=some r) :
  FnM Tryz.prog 47 [(vI a),(vI e),(vI b)] [] (vB r) []:=by
 refine FnM.of_wH ⟨Tryz.prog,15,[],[]⟩ rfl Tryz.func47 rfl rfl (lb_ rfl) (by kernel_rfl) ?_
 unfold aX at d
 refine ai (aa (vB false) (af (ak ?_)))
 obtain ⟨g,c,d⟩:=bind_some d
 refine aU [(6,(vB g))] [] ?_ ?_
 ·refine au (aa (vI a) (aa (vI e) (aa (vB (decide (a<e))) ?_)))
  rcases aj c with⟨f,c⟩|⟨f,c⟩
  ·refine aB rfl f wz (ah (ah (ah (aa (vB true) (aa (vB true) (af ?_))))))
   obtain rfl:=ae c
   exact cu
  ·refine aB rfl f wz (aL (vI a) wa rfl (aL (vI b) wa rfl (aL (vB (decide (a>b))) wa rfl (aa (vB (decide (a>b))) (aa (vB (decide (a>b))) (af ?_))))))
   obtain rfl:=ae c
   exact cu
 ·rintro ⟨⟩ _ k j h i
  refine aR _ h i ?_
  obtain rfl:=ae d
  exact aC (aO [(vB g)] ⟨rfl,trivial⟩)
theorem rX {b:(List ByteArray)} {r:Int} (g:iX b=some r) :
  FnM Tryz.prog 97 [(vL eS b)] [] (vI r) []:=by
 refine FnM.of_wH ⟨Tryz.prog,27,[],[]⟩ rfl Tryz.func97 rfl rfl (lb_ rfl) (by kernel_rfl) ?_
 unfold iX at g
 refine ai (aa (vI 0) (af (ak (ai (aa (vL eS b) (bQ Et rfl wz (aa (vI 0) (af ?_))))))))
 obtain ⟨A,n,g⟩:=bind_some g
 obtain ⟨v,n⟩:=bn n
 refine dB (λ(i:Unit)=>[]) (λ(i:Unit)=>[]) (λ(c:Nat)=>(λ(i:Unit)=>[(0,(vL eS b)),(5,(vL eS b)),(6,(vI (b.length:Int))),(7,(vI (c:Int)))])) (λk x s=>iB b k x s) A b () n rfl (aK rfl) ?_ ?_
 ·rintro ⟨c,q,i⟩ ⟨d,f⟩
  dsimp only at d f
  cases q with
  | nil =>
   obtain rfl:=ae d
   refine ai (aa (vB (decide ((c:Int)<(b.length:Int)))) (af ?_))
   refine ak (ay rfl (drop_nil f) (aY ?_))
   exact aW (i) rfl rfl (aK rfl)
  | cons h q =>
   obtain ⟨F,a,d⟩:=bind_some d
   refine ai (aa (vB (decide ((c:Int)<(b.length:Int)))) (af ?_))
   refine ak (aA rfl (bE f) (ax ?_))
   unfold iB at a
   refine ak (aQ (ai (aa (vI (c:Int)) (dI wW rfl rfl (bN f) rfl wz (bH sz9 ag9 rfl (vS h) rfl wz (aa (vI (c:Int)) (aa (vS h) (af (ak (ai (aa (vS h) ?_)))))))))))
   obtain ⟨B,y,a⟩:=bind_some a
   refine aG (gy y) rfl CY rfl rfl rfl rfl wz (aa (vB (!B)) (af ?_))
   rcases aj a with⟨j,a⟩|⟨j,a⟩
   ·refine aA rfl j (ai (aa (vI 5) (af ?_)))
    obtain rfl:=ae a
    obtain rfl:=ae d
    obtain rfl:=ae g
    exact aC (aO [(vI 5)] ⟨rfl,trivial⟩)
   ·refine ay rfl j (ax (ak ?_))
    obtain ⟨E,e,a⟩:=bind_some a
    refine aU [(0,(vL eS b)),(5,(vL eS b)),(6,(vI (b.length:Int))),(7,(vI (c:Int))),(25,(vB E))] [] ?_ ?_
    ·refine au (aa (vI (c:Int)) (aa (vB (decide ((c:Int)>0))) ?_))
     rcases aj e with⟨l,e⟩|⟨l,e⟩
     ·refine aB rfl l wz (aL (vS h) wa rfl (aL (vL eS b) wa rfl (aL (vI (c:Int)) wa rfl (aL (vI (w64 ((c:Int)-1))) wa rfl ?_))))
      obtain ⟨t,z,e⟩:=bind_some e
      refine dI wW rfl rfl z rfl wa (bH sz9 ag9 rfl (vS t) rfl wa (aL (vB (sLe h t)) wa rfl (aa (vB (sLe h t)) (af ?_))))
      obtain rfl:=ae e
      exact cu
     ·refine aB rfl l wz (ah (ah (ah (ah (ah (ah (ah (aa (vB false) (af ?_)))))))))
      obtain rfl:=ae e
      exact cu
    ·rintro ⟨⟩ _ C u o p
     refine aR _ o p ?_
     rcases aj a with⟨m,a⟩|⟨m,a⟩
     ·refine aA rfl m (ai (aa (vI 7) (af ?_)))
      obtain rfl:=ae a
      obtain rfl:=ae d
      obtain rfl:=ae g
      exact aC (aO [(vI 7)] ⟨rfl,trivial⟩)
     ·refine ay rfl m (ax (au (dS (bC f v) wz rfl (aa (vI ((c+1:Nat):Int)) (af ?_)))))
      obtain rfl:=ae a
      exact aZ (c+1,q,()) ⟨d,aV f⟩ (ls_ _) rfl (aK rfl)
 ·rintro i w C u o p
  subst w
  refine aR _ o p (ai (aa (vI 0) (af ?_)))
  obtain rfl:=ae g
  exact aC (aO [(vI 0)] ⟨rfl,trivial⟩)
theorem qg {b:(List ByteArray)} {r:Int} (a:fI b=some r) :
  FnM Tryz.prog 66 [(vL eS b)] [] (vI r) []:=by
 refine FnM.of_wH ⟨Tryz.prog,8,[],[]⟩ rfl Tryz.func66 rfl rfl (lb_ rfl) (by kernel_rfl) ?_
 unfold fI at a
 refine ai (aa (vI 0) (af (ak (ai (aa (vL eS b) (bQ Et rfl wz (aa (vB (decide ((b.length:Int)>20))) (af ?_))))))))
 rcases aj a with⟨c,a⟩|⟨c,a⟩
 ·refine aA rfl c (ai (aa (vI 2) (af ?_)))
  obtain rfl:=ae a
  exact aC (aO [(vI 2)] ⟨rfl,trivial⟩)
 ·refine ay rfl c (ax (ai (aa (vL eS b) ?_)))
  obtain ⟨d,e,a⟩:=bind_some a
  refine aG (rX e) rfl hb97 rfl rfl rfl rfl wz (aa (vI d) (af ?_))
  obtain rfl:=ae a
  exact aC (aO [(vI d)] ⟨rfl,trivial⟩)
theorem wO {b:(List Spot)} {r:Int} (e:jq b=some r) :
  FnM Tryz.prog 37 [(vL Spot.enc b)] [] (vI r) []:=by
 refine FnM.of_wH ⟨Tryz.prog,52,[],[]⟩ rfl Tryz.func37 rfl rfl (lb_ rfl) (by kernel_rfl) ?_
 unfold jq at e
 refine ai (aa (vI 0) (af (ak (ai (aa (vL Spot.enc b) (bQ Lr rfl wz (aa (vB (decide ((b.length:Int)>60))) (af ?_))))))))
 rcases aj e with⟨w,e⟩|⟨w,e⟩
 ·refine aA rfl w (ai (aa (vI 2) (af ?_)))
  obtain rfl:=ae e
  exact aC (aO [(vI 2)] ⟨rfl,trivial⟩)
 ·refine ay rfl w (ax (ak (ai (aa (vL Spot.enc b) (bQ Lr rfl wz (aa (vI 0) (af ?_)))))))
  obtain ⟨Q,C,e⟩:=bind_some e
  obtain ⟨J,C⟩:=bn C
  refine dB (λ(p:Unit)=>[]) (λ(p:Unit)=>[]) (λ(c:Nat)=>(λ(p:Unit)=>[(0,(vL Spot.enc b)),(9,(vL Spot.enc b)),(10,(vI (b.length:Int))),(11,(vI (c:Int)))])) (λk x s=>jG b k x s) Q b () C rfl (aK rfl) ?_ ?_
  ·rintro ⟨c,E,p⟩ ⟨g,l⟩
   dsimp only at g l
   cases E with
   | nil =>
    obtain rfl:=ae g
    refine ai (aa (vB (decide ((c:Int)<(b.length:Int)))) (af ?_))
    refine ak (ay rfl (drop_nil l) (aY ?_))
    exact aW (p) rfl rfl (aK rfl)
   | cons f E =>
    obtain ⟨W,a,g⟩:=bind_some g
    refine ai (aa (vB (decide ((c:Int)<(b.length:Int)))) (af ?_))
    refine ak (aA rfl (bE l) (ax ?_))
    unfold jG at a
    refine ak (aQ (ai (aa (vI (c:Int)) (dI LK rfl rfl (bN l) rfl wz (bH zA JJ rfl (.d (.agg (Spot.enc f))) rfl wz (dz 0 (.inl rfl) z40 rfl wz (λq=>aa (vI (c:Int)) (gp 0 il ft 0 zA rfl rfl (Spot.v f) rfl wz (af (ak (aQ (ai (aI EB rfl 0 rfl wz (aH 0 0 il ft sz9 ag9 rfl rfl (vS f.Key) rfl wz ?_))))))))))))))
    obtain ⟨G,L,a⟩:=bind_some a
    refine aG (gy L) rfl CY rfl rfl rfl rfl wz (aa (vB (!G)) (aa (vB (!G)) (af ?_)))
    rcases aj a with⟨t,a⟩|⟨t,a⟩
    ·refine aA rfl t (ai (aa (vI 5) (af ?_)))
     obtain rfl:=ae a
     obtain rfl:=ae g
     obtain rfl:=ae e
     exact aC (aO [(vI 5)] ⟨rfl,trivial⟩)
    ·refine ay rfl t (ak ?_)
     obtain ⟨T,j,a⟩:=bind_some a
     refine aU [(0,(vL Spot.enc b)),(4,(.ref q 0 0)),(9,(vL Spot.enc b)),(10,(vI (b.length:Int))),(11,(vI (c:Int))),(21,(vB T))] [(q,some (.cells 5 (Spot.v f)))] ?_ ?_
     ·refine bv (aa (vI (c:Int)) (aa (vB (decide ((c:Int)>0))) ?_))
      rcases aj j with⟨u,j⟩|⟨u,j⟩
      ·refine aB rfl u wz (aI EB rfl 0 rfl wa (aH 4 0 (.inr (by kernel_rfl)) (λ_ _ ag=>trivial) sz9 ag9 rfl rfl (vS f.Key) rfl wa (aL (vL Spot.enc b) wa rfl (aL (vI (c:Int)) wa rfl (aL (vI (w64 ((c:Int)-1))) wa rfl ?_)))))
       obtain ⟨i,P,j⟩:=bind_some j
       refine dI LK rfl rfl P rfl wa (lQ EB rfl [.str i.Key,.int .i64 i.Time.From,.int .i64 i.Time.To,.int .i64 i.Room,dl eS i.Tags] rfl rfl wa (bH sz9 ag9 rfl (vS i.Key) rfl wa (aL (vB (sLe f.Key i.Key)) wa rfl (aa (vB (sLe f.Key i.Key)) (aa (vB (sLe f.Key i.Key)) (af ?_))))))
       obtain rfl:=ae j
       exact cu
      ·refine aB rfl u wz (ah (ah (ah (ah (ah (ah (ah (ah (ah (aa (vB false) (aa (vB false) (af ?_))))))))))))
       obtain rfl:=ae j
       exact cu
     ·rintro ⟨⟩ _ I F n o
      refine aR _ n o ?_
      rcases aj a with⟨y,a⟩|⟨y,a⟩
      ·refine aA rfl y (ai (aa (vI 7) (af ?_)))
       obtain rfl:=ae a
       obtain rfl:=ae g
       obtain rfl:=ae e
       exact aC (aO [(vI 7)] ⟨rfl,trivial⟩)
      ·refine ay rfl y (ak ?_)
       obtain ⟨U,h,a⟩:=bind_some a
       refine aU [(0,(vL Spot.enc b)),(4,(.ref q 0 0)),(9,(vL Spot.enc b)),(10,(vI (b.length:Int))),(11,(vI (c:Int))),(35,(vB U))] [(q,some (.cells 5 (Spot.v f)))] ?_ ?_
       ·refine au (aI El rfl 1 rfl wz (aH 0 0 il ft yN Gf rfl rfl (.d (.agg (Window.enc f.Time))) rfl wz ?_))
        obtain ⟨R,M,h⟩:=bind_some h
        refine aG (tF M) rfl hb65 rfl rfl rfl rfl wz (aa (vB (!R)) ?_)
        rcases aj h with⟨z,h⟩|⟨z,h⟩
        ·refine aB rfl z wz (ah (ah (ah (aa (vB true) (aa (vB true) (af ?_))))))
         obtain rfl:=ae h
         exact cu
        ·refine aB rfl z wz (aI Sa rfl 3 rfl wa (aH 0 0 il ft sz3 ag3 rfl rfl (vI f.Room) rfl wa ?_))
         obtain ⟨H,N,h⟩:=bind_some h
         refine aG (bA N) rfl rR rfl rfl rfl rfl wa (aa (vB H) (aa (vB H) (af ?_)))
         obtain rfl:=ae h
         exact cu
       ·rintro ⟨⟩ _ I F n o
        refine aR _ n o ?_
        rcases aj a with⟨A,a⟩|⟨A,a⟩
        ·refine aA rfl A (ai (aa (vI 1) (af ?_)))
         obtain rfl:=ae a
         obtain rfl:=ae g
         obtain rfl:=ae e
         exact aC (aO [(vI 1)] ⟨rfl,trivial⟩)
        ·refine ay rfl A (ax (ai (aI Ih rfl 4 rfl wz (aH 0 0 il ft Jn M6 rfl rfl (vL eS f.Tags) rfl wz ?_))))
         obtain ⟨m,O,a⟩:=bind_some a
         refine aG (qg O) rfl hb66 rfl rfl rfl rfl wz (aa (vI m) (af (ai (aa (vI m) (aa (vB (m != 0)) (af ?_))))))
         rcases aj a with⟨B,a⟩|⟨B,a⟩
         ·refine aA rfl B (ai (aa (vI m) (aa (vI m) (af ?_))))
          obtain rfl:=ae a
          obtain rfl:=ae g
          obtain rfl:=ae e
          exact aC (aO [(vI m)] ⟨rfl,trivial⟩)
         ·refine ay rfl B (ax (au (dS (bC l J) wz rfl (aa (vI ((c+1:Nat):Int)) (af ?_)))))
          obtain rfl:=ae a
          exact aZ (c+1,E,()) ⟨g,aV l⟩ (ls_ _) rfl (aK rfl)
  ·rintro p K I F n o
   subst K
   refine aR _ n o (ai (aa (vI 0) (af ?_)))
   obtain rfl:=ae e
   exact aC (aO [(vI 0)] ⟨rfl,trivial⟩)
theorem jK {b:(List Campaign)} {r:Int} (h:cO b=some r) :
  FnM Tryz.prog 38 [(vL Campaign.enc b)] [] (vI r) []:=by
 refine FnM.of_wH ⟨Tryz.prog,73,[],[]⟩ rfl Tryz.func38 rfl rfl (lb_ rfl) (by kernel_rfl) ?_
 unfold cO at h
 refine ai (aa (vI 0) (af (ak (ai (aa (vL Campaign.enc b) (bQ I6 rfl wz (aa (vB (decide ((b.length:Int)>30))) (af ?_))))))))
 rcases aj h with⟨A,h⟩|⟨A,h⟩
 ·refine aA rfl A (ai (aa (vI 2) (af ?_)))
  obtain rfl:=ae h
  exact aC (aO [(vI 2)] ⟨rfl,trivial⟩)
 ·refine ay rfl A (ax (ak (ai (aa (vL Campaign.enc b) (bQ I6 rfl wz (aa (vI 0) (af ?_)))))))
  obtain ⟨À,K,h⟩:=bind_some h
  obtain ⟨O,K⟩:=bn K
  refine dB (λ(q:Unit)=>[]) (λ(q:Unit)=>[]) (λ(f:Nat)=>(λ(q:Unit)=>[(0,(vL Campaign.enc b)),(9,(vL Campaign.enc b)),(10,(vI (b.length:Int))),(11,(vI (f:Int)))])) (λk x s=>dP b k x s) À b () K rfl (aK rfl) ?_ ?_
  ·rintro ⟨f,L,q⟩ ⟨i,n⟩
   dsimp only at i n
   cases L with
   | nil =>
    obtain rfl:=ae i
    refine ai (aa (vB (decide ((f:Int)<(b.length:Int)))) (af ?_))
    refine ak (ay rfl (drop_nil n) (aY ?_))
    exact aW (q) rfl rfl (aK rfl)
   | cons e L =>
    obtain ⟨È,a,i⟩:=bind_some i
    refine ai (aa (vB (decide ((f:Int)<(b.length:Int)))) (af ?_))
    refine ak (aA rfl (bE n) (ax ?_))
    unfold dP at a
    refine ak (aQ (ai (aa (vI (f:Int)) (dI F8 rfl rfl (bN n) rfl wz (bH wQ FM rfl (.d (.agg (Campaign.enc e))) rfl wz (dz 0 (.inl rfl) z58 rfl wz (λo=>aa (vI (f:Int)) (gp 0 il ft 0 wQ rfl rfl (Campaign.v e) rfl wz (af (ak (aQ (ak ?_))))))))))))
    obtain ⟨Å,g,a⟩:=bind_some a
    refine aU [(0,(vL Campaign.enc b)),(3,(vI (f:Int))),(4,(.ref o 0 0)),(9,(vL Campaign.enc b)),(10,(vI (b.length:Int))),(11,(vI (f:Int))),(16,(vB Å))] [(o,some (.cells 8 (Campaign.v e)))] ?_ ?_
    ·refine au (aI Bt rfl 0 rfl wz (aH 0 0 il ft sz9 ag9 rfl rfl (vS e.Key) rfl wz ?_))
     obtain ⟨Á,Q,g⟩:=bind_some g
     refine aG (gy Q) rfl CY rfl rfl rfl rfl wz (aa (vB (!Á)) ?_)
     rcases aj g with⟨y,g⟩|⟨y,g⟩
     ·refine aB rfl y wz (ah (ah (ah (ah (bU (wn rfl rfl) (bU (wn rfl rfl) (bU (wn rfl rfl) (bU (wn rfl rfl) (ah (aa (vB true) (aa (vB true) (af ?_))))))))))))
      obtain rfl:=ae g
      exact cu
     ·refine aB rfl y wz (aI P7 rfl 1 rfl wa (aH 0 0 il ft sz9 ag9 rfl rfl (vS e.Class) rfl wa (aL (vB (sNe e.Class (⟨#[]⟩:ByteArray))) wa rfl ?_)))
      rcases aj g with⟨z,g⟩|⟨z,g⟩
      ·refine aB rfl z wa (aI P7 rfl 1 rfl wa (aH 0 0 il ft sz9 ag9 rfl rfl (vS e.Class) rfl wa ?_))
       obtain ⟨u,R,g⟩:=bind_some g
       refine aG (gy R) rfl CY rfl rfl rfl rfl wa (aL (vB (!u)) wa rfl (aL (vB (!u)) wa rfl (aa (vB (!u)) (aa (vB (!u)) (af ?_)))))
       obtain rfl:=ae g
       exact cu
      ·refine aB rfl z wa (ah (ah (ah (ah (aL (vB false) wa rfl (aa (vB false) (aa (vB false) (af ?_))))))))
       obtain rfl:=ae g
       exact cu
    ·rintro ⟨⟩ _ M w l m
     refine aR _ l m ?_
     rcases aj a with⟨B,a⟩|⟨B,a⟩
     ·refine aA rfl B (ai (aa (vI 5) (af ?_)))
      obtain rfl:=ae a
      obtain rfl:=ae i
      obtain rfl:=ae h
      exact aC (aO [(vI 5)] ⟨rfl,trivial⟩)
     ·refine ay rfl B (ak ?_)
      obtain ⟨Æ,j,a⟩:=bind_some a
      refine aU [(0,(vL Campaign.enc b)),(4,(.ref o 0 0)),(9,(vL Campaign.enc b)),(10,(vI (b.length:Int))),(11,(vI (f:Int))),(32,(vB Æ))] [(o,some (.cells 8 (Campaign.v e)))] ?_ ?_
      ·refine bv (aa (vI (f:Int)) (aa (vB (decide ((f:Int)>0))) ?_))
       rcases aj j with⟨C,j⟩|⟨C,j⟩
       ·refine aB rfl C wz (aI Bt rfl 0 rfl wa (aH 4 0 (.inr (by kernel_rfl)) (λ_ _ ag=>trivial) sz9 ag9 rfl rfl (vS e.Key) rfl wa (aL (vL Campaign.enc b) wa rfl (aL (vI (f:Int)) wa rfl (aL (vI (w64 ((f:Int)-1))) wa rfl ?_)))))
        obtain ⟨t,Z,j⟩:=bind_some j
        refine dI F8 rfl rfl Z rfl wa (lQ Bt rfl (Campaign.enc t) rfl rfl wa (bH sz9 ag9 rfl (vS t.Key) rfl wa (aL (vB (sLe e.Key t.Key)) wa rfl (aa (vB (sLe e.Key t.Key)) (aa (vB (sLe e.Key t.Key)) (af ?_))))))
        obtain rfl:=ae j
        exact cu
       ·refine aB rfl C wz (ah (ah (ah (ah (ah (ah (ah (ah (ah (aa (vB false) (aa (vB false) (af ?_))))))))))))
        obtain rfl:=ae j
        exact cu
      ·rintro ⟨⟩ _ M w l m
       refine aR _ l m ?_
       rcases aj a with⟨E,a⟩|⟨E,a⟩
       ·refine aA rfl E (ai (aa (vI 7) (af ?_)))
        obtain rfl:=ae a
        obtain rfl:=ae i
        obtain rfl:=ae h
        exact aC (aO [(vI 7)] ⟨rfl,trivial⟩)
       ·refine ay rfl E (ak ?_)
        obtain ⟨Ç,c,a⟩:=bind_some a
        refine aU [(0,(vL Campaign.enc b)),(4,(.ref o 0 0)),(9,(vL Campaign.enc b)),(10,(vI (b.length:Int))),(11,(vI (f:Int))),(46,(vB Ç))] [(o,some (.cells 8 (Campaign.v e)))] ?_ ?_
        ·refine au (aI uB rfl 2 rfl wz (aH 0 0 il ft yN Gf rfl rfl (.d (.agg (Window.enc e.Time))) rfl wz ?_))
         obtain ⟨Â,T,c⟩:=bind_some c
         refine aG (tF T) rfl hb65 rfl rfl rfl rfl wz (aa (vB (!Â)) ?_)
         rcases aj c with⟨F,c⟩|⟨F,c⟩
         ·refine aB rfl F wz (ah (ah (ah (aa (vB true) (aa (vB true) (ah (ah (ah (aa (vB true) (aa (vB true) (ah (ah (ah (aa (vB true) (aa (vB true) (af ?_))))))))))))))))
          obtain rfl:=ae c
          exact cu
         ·refine aB rfl F wz (aI zH rfl 5 rfl wa (aH 0 0 il ft sz3 ag3 rfl rfl (vI e.Goal) rfl wa ?_))
          obtain ⟨Ã,U,c⟩:=bind_some c
          refine aG (bA U) rfl rR rfl rfl rfl rfl wa (aa (vB Ã) ?_)
          rcases aj c with⟨G,c⟩|⟨G,c⟩
          ·refine aB rfl G wz (ah (ah (ah (aa (vB true) (aa (vB true) (ah (ah (ah (aa (vB true) (aa (vB true) (af ?_)))))))))))
           obtain rfl:=ae c
           exact cu
          ·refine aB rfl G wz (aI Qn rfl 6 rfl wa (aH 0 0 il ft sz3 ag3 rfl rfl (vI e.Most) rfl wa ?_))
           obtain ⟨Ä,W,c⟩:=bind_some c
           refine aG (bA W) rfl rR rfl rfl rfl rfl wa (aa (vB Ä) ?_)
           rcases aj c with⟨H,c⟩|⟨H,c⟩
           ·refine aB rfl H wz (ah (ah (ah (aa (vB true) (aa (vB true) (af ?_))))))
            obtain rfl:=ae c
            exact cu
           ·refine aB rfl H wz (aI pl58_6 rfl 7 rfl wa (aH 0 0 il ft sz3 ag3 rfl rfl (vI e.Cents) rfl wa ?_))
            obtain ⟨N,X,c⟩:=bind_some c
            refine aG (bA X) rfl rR rfl rfl rfl rfl wa (aa (vB N) (aa (vB N) (af ?_)))
            obtain rfl:=ae c
            exact cu
        ·rintro ⟨⟩ _ M w l m
         refine aR _ l m ?_
         rcases aj a with⟨I,a⟩|⟨I,a⟩
         ·refine aA rfl I (ai (aa (vI 1) (af ?_)))
          obtain rfl:=ae a
          obtain rfl:=ae i
          obtain rfl:=ae h
          exact aC (aO [(vI 1)] ⟨rfl,trivial⟩)
         ·refine ay rfl I (ax (ai (aI Ir rfl 4 rfl wz (aH 0 0 il ft Jn M6 rfl rfl (vL eS e.Tags) rfl wz ?_))))
          obtain ⟨p,Y,a⟩:=bind_some a
          refine aG (qg Y) rfl hb66 rfl rfl rfl rfl wz (aa (vI p) (af (ai (aa (vI p) (aa (vB (p != 0)) (af ?_))))))
          rcases aj a with⟨J,a⟩|⟨J,a⟩
          ·refine aA rfl J (ai (aa (vI p) (aa (vI p) (af ?_))))
           obtain rfl:=ae a
           obtain rfl:=ae i
           obtain rfl:=ae h
           exact aC (aO [(vI p)] ⟨rfl,trivial⟩)
          ·refine ay rfl J (ax (au (dS (bC n O) wz rfl (aa (vI ((f+1:Nat):Int)) (af ?_)))))
           obtain rfl:=ae a
           exact aZ (f+1,L,()) ⟨i,aV n⟩ (ls_ _) rfl (aK rfl)
  ·rintro q P M w l m
   subst P
   refine aR _ l m (ai (aa (vI 0) (af ?_)))
   obtain rfl:=ae h
   exact aC (aO [(vI 0)] ⟨rfl,trivial⟩)
theorem xm {e:(List Spot)} {d:(List Campaign)} {r:Int} (a:gW e d=some r) :
  FnM Tryz.prog 14 [(vL Spot.enc e),(vL Campaign.enc d)] [] (vI r) []:=by
 refine FnM.of_wH ⟨Tryz.prog,13,[],[]⟩ rfl Tryz.func14 rfl rfl (lb_ rfl) (by kernel_rfl) ?_
 unfold gW at a
 refine ai (aa (vI 0) (af (ak (ai (aa (vL Spot.enc e) ?_)))))
 obtain ⟨b,g,a⟩:=bind_some a
 refine aG (wO g) rfl hb37 rfl rfl rfl rfl wz (aa (vI b) (af (ai (aa (vI b) (aa (vB (b != 0)) (af ?_))))))
 rcases aj a with⟨c,a⟩|⟨c,a⟩
 ·refine aA rfl c (ai (aa (vI b) (aa (vI b) (af ?_))))
  obtain rfl:=ae a
  exact aC (aO [(vI b)] ⟨rfl,trivial⟩)
 ·refine ay rfl c (ax (ai (aa (vL Campaign.enc d) ?_)))
  obtain ⟨f,h,a⟩:=bind_some a
  refine aG (jK h) rfl hb38 rfl rfl rfl rfl wz (aa (vI f) (af ?_))
  obtain rfl:=ae a
  exact aC (aO [(vI f)] ⟨rfl,trivial⟩)
theorem ny {a:Web} {b:Int} {r:Int} (c:iI a b=some r) :
  FnM Tryz.prog 19 [(.ref (av 0) 0 0),(vI b)] (lh 2 1 eI [(vI a.f_camps)] a.f_can) (vI r) (iq 2 1 eI [(vI a.f_camps)] a.f_can):=by
 refine FnM.of_wHg (cs:=[(vI a.f_camps)]) ⟨Tryz.prog,7,[],[]⟩ rfl Tryz.func19 rfl rfl (lb_ rfl) (by kernel_rfl) ?_
 unfold iI at c
 refine ai (aa (vI 0) (af (ai (aa (vI b) (aa (vI (w64 (2+b))) (aa (vI (w64 (2+b))) (af ?_)))))))
 obtain rfl:=ae c
 exact aC (NT (k:=2) (cs:=[(vI a.f_camps)]) (cs':=[(vI a.f_camps)]) (rows:=a.f_can) (rows':=a.f_can) ([]:Hp) (.inr rfl) [(vI (w64 (2+b)))] ⟨rfl,trivial⟩ rfl rfl rfl rfl rfl rfl)
theorem ru {a:ByteArray} {r:Bool} (b:cmp_isNaN_string a=some r) :
  FnM Tryz.prog 98 [(vS a)] [] (vB r) []:=by
 refine FnM.of_wH ⟨Tryz.prog,6,[],[]⟩ rfl Tryz.func98 rfl rfl (lb_ rfl) (by kernel_rfl) ?_
 unfold cmp_isNaN_string at b
 refine ai (aa (vB false) (af (ai (aa (vS a) (aa (vS a) (aa (vB (sNe a a)) (aa (vB (sNe a a)) (af ?_))))))))
 obtain rfl:=ae b
 exact aC (aO [(vB (sNe a a))] ⟨rfl,trivial⟩)
theorem zy {b:ByteArray} {c:ByteArray} {r:Bool} (d:cmp_Less_string b c=some r) :
  FnM Tryz.prog 67 [(vS b),(vS c)] [] (vB r) []:=by
 refine FnM.of_wH ⟨Tryz.prog,17,[],[]⟩ rfl Tryz.func67 rfl rfl (lb_ rfl) (by kernel_rfl) ?_
 unfold cmp_Less_string at d
 refine ai (aa (vB false) (af (ak ?_)))
 obtain ⟨h,a,d⟩:=bind_some d
 refine aU [(4,(vB h))] [] ?_ ?_
 ·refine au (aa (vS b) ?_)
  obtain ⟨n,k,a⟩:=bind_some a
  refine aG (ru k) rfl hb98 rfl rfl rfl rfl wz ?_
  rcases aj a with⟨f,a⟩|⟨f,a⟩
  ·refine aB rfl f wz (aL (vS c) wa rfl ?_)
   obtain ⟨g,l,a⟩:=bind_some a
   refine aG (ru l) rfl hb98 rfl rfl rfl rfl wa (aL (vB (!g)) wa rfl (aa (vB (!g)) ?_))
   rcases aj a with⟨e,a⟩|⟨e,a⟩
   ·refine aB rfl e wz (ah (ah (ah (aa (vB true) (aa (vB true) (af ?_))))))
    obtain rfl:=ae a
    exact cu
   ·refine aB rfl e wz (aL (vS b) wa rfl (aL (vS c) wa rfl (aL (vB (sLt b c)) wa rfl (aa (vB (sLt b c)) (aa (vB (sLt b c)) (af ?_))))))
    obtain rfl:=ae a
    exact cu
  ·refine aB rfl f wz (ah (ah (ah (aa (vB false) (aa (vB false) (aL (vS b) wa rfl (aL (vS c) wa rfl (aL (vB (sLt b c)) wa rfl (aa (vB (sLt b c)) (aa (vB (sLt b c)) (af ?_)))))))))))
   obtain rfl:=ae a
   exact cu
 ·rintro ⟨⟩ _ o m i j
  refine aR _ i j ?_
  obtain rfl:=ae d
  exact aC (aO [(vB h)] ⟨rfl,trivial⟩)
theorem oI {a:ByteArray} {r:Bool} (b:slices_isNaN_string a=some r) :
  FnM Tryz.prog 68 [(vS a)] [] (vB r) []:=by
 refine FnM.of_wH ⟨Tryz.prog,6,[],[]⟩ rfl Tryz.func68 rfl rfl (lb_ rfl) (by kernel_rfl) ?_
 unfold slices_isNaN_string at b
 refine ai (aa (vB false) (af (ai (aa (vS a) (aa (vS a) (aa (vB (sNe a a)) (aa (vB (sNe a a)) (af ?_))))))))
 obtain rfl:=ae b
 exact aC (aO [(vB (sNe a a))] ⟨rfl,trivial⟩)
theorem nE {c:(List ByteArray)} {f:ByteArray} {r:Int×Bool} (h:dA c f=some r) :
  FnM Tryz.prog 40 [(vL eS c),(vS f)] [] (.tup [(vI r.1),(vB r.2)]) []:=by
 refine FnM.of_wH ⟨Tryz.prog,54,[],[]⟩ rfl Tryz.func40 rfl rfl (lb_ rfl) (by kernel_rfl) ?_
 unfold dA at h
 refine ai (aa (vI 0) (aa (vB false) (af (ai (aa (vL eS c) (bQ Et rfl wz (aa (vI (c.length:Int)) (af (ai (aa (vI (c.length:Int)) (aa (vI 0) (aa (vI (c.length:Int)) (af (ak ?_))))))))))))))
 obtain ⟨H,p,h⟩:=bind_some h
 obtain ⟨G,p⟩:=bW p
 refine dY (λ(a:Int×Int)=>[(0,(vL eS c)),(1,(vS f)),(6,(vI (c.length:Int))),(7,(vI a.1))]) (λ(a:Int×Int)=>[]) (λ(i:Nat)=>(λ(a:Int×Int)=>[(0,(vL eS c)),(1,(vS f)),(6,(vI (c.length:Int))),(7,(vI a.1)),(8,(vI a.2))])) (λs=>bg c f s) H G (0,(c.length:Int)) p rfl (aK rfl) ?_ ?_
 ·rintro ⟨i,a⟩ g
  dsimp only at g
  cases i with
  | zero=>cases g
  | succ i =>
   obtain ⟨L,d,g⟩:=bind_some g
   unfold bg at d
   refine ak (ai (aa (vI a.1) (aa (vI a.2) (aa (vB (decide (a.1<a.2))) (af ?_)))))
   rcases aj d with⟨k,d⟩|⟨k,d⟩
   ·refine aA rfl k (ax (aQ (ai (aa (vI a.1) (aa (vI a.2) (aa (vI (w64 (a.1+a.2))) (oZ un3 Cz rfl wz ?_)))))))
    obtain ⟨e,F,d⟩:=bind_some d
    refine Hf rfl rfl F wz (oZ Cz un3 rfl wz (aa (vI (w64 e)) (af (ai (aa (vL eS c) (aa (vI (w64 e)) ?_))))))
    obtain ⟨J,B,d⟩:=bind_some d
    refine dI wW rfl rfl B rfl wz (bH sz9 ag9 rfl (vS J) rfl wz (aa (vS f) ?_))
    obtain ⟨M,y,d⟩:=bind_some d
    refine aG (zy y) rfl hb67 rfl rfl rfl rfl wz (af ?_)
    rcases aj d with⟨l,d⟩|⟨l,d⟩
    ·refine aA rfl l (au (aa (vI (w64 e)) (aa (vI (w64 ((w64 e)+1))) (aa (vI (w64 ((w64 e)+1))) (af ?_)))))
     obtain rfl:=ae d
     exact aZ (i,((w64 ((w64 e)+1)),a.2)) g (ls_ _) rfl (aK rfl)
    ·refine ay rfl l (au (aa (vI (w64 e)) (aa (vI (w64 e)) (af ?_))))
     obtain rfl:=ae d
     exact aZ (i,(a.1,(w64 e))) g (ls_ _) rfl (aK rfl)
   ·refine ay rfl k (aY ?_)
    obtain rfl:=ae d
    obtain rfl:=ae g
    exact aW ((a.1,a.2)) rfl rfl (aK rfl)
 ·rintro a x I w q t
  subst x
  refine aR _ q t (ak ?_)
  obtain ⟨u,b,h⟩:=bind_some h
  refine aU [(4,(vI a.1)),(5,(vB u))] [] ?_ ?_
  ·refine au (aa (vI a.1) (aa (vI a.1) (aa (vI (c.length:Int)) (aa (vB (decide (a.1<(c.length:Int)))) ?_))))
   rcases aj b with⟨m,b⟩|⟨m,b⟩
   ·refine aB rfl m wz (aL (vL eS c) wa rfl (aL (vI a.1) wa rfl ?_))
    obtain ⟨v,C,b⟩:=bind_some b
    refine dI wW rfl rfl C rfl wa (bH sz9 ag9 rfl (vS v) rfl wa (aL (vS f) wa rfl (aL (vB (sEq v f)) wa rfl ?_)))
    rcases aj b with⟨n,b⟩|⟨n,b⟩
    ·refine aB rfl n wa (ah (ah (ah (ah (ah (ah (bU (wn rfl rfl) (bU (wn rfl rfl) (ah (aL (vB true) wa rfl (aa (vB true) (aa (vI a.1) (aa (vB true) (af ?_))))))))))))))
     obtain rfl:=ae b
     exact cu
    ·refine aB rfl n wa (aL (vL eS c) wa rfl (aL (vI a.1) wa rfl ?_))
     obtain ⟨K,E,b⟩:=bind_some b
     refine dI wW rfl rfl E rfl wa (bH sz9 ag9 rfl (vS K) rfl wa ?_)
     obtain ⟨N,z,b⟩:=bind_some b
     refine aG (oI z) rfl hb68 rfl rfl rfl rfl wa ?_
     rcases aj b with⟨o,b⟩|⟨o,b⟩
     ·refine aB rfl o wa (aL (vS f) wa rfl ?_)
      obtain ⟨j,A,b⟩:=bind_some b
      refine aG (oI A) rfl hb68 rfl rfl rfl rfl wa (aL (vB j) wa rfl (aL (vB j) wa rfl (aa (vB j) (aa (vI a.1) (aa (vB j) (af ?_))))))
      obtain rfl:=ae b
      exact cu
     ·refine aB rfl o wa (ah (ah (aL (vB false) wa rfl (aL (vB false) wa rfl (aa (vB false) (aa (vI a.1) (aa (vB false) (af ?_))))))))
      obtain rfl:=ae b
      exact cu
   ·refine aB rfl m wz (ah (ah (ah (ah (ah (ah (ah (bU (wn rfl rfl) (bU (wn rfl rfl) (bU (wn rfl rfl) (bU (wn rfl rfl) (bU (wn rfl rfl) (bU (wn rfl rfl) (bU (wn rfl rfl) (bU (wn rfl rfl) (bU (wn rfl rfl) (ah (aa (vB false) (aa (vI a.1) (aa (vB false) (af ?_)))))))))))))))))))))
    obtain rfl:=ae b
    exact cu
  ·rintro ⟨⟩ _ I w q t
   refine aR _ q t ?_
   obtain rfl:=ae h
   exact aC (aO [(vI a.1),(vB u)] ⟨rfl,⟨rfl,trivial⟩⟩)
theorem uI {a:Campaign} {b:Spot} {r:Bool} (c:lI a b=some r) :
  FnM Tryz.prog 18 [(.d (.agg (Campaign.enc a))),(.d (.agg (Spot.enc b)))] [] (vB r) []:=by
 refine FnM.of_wH ⟨Tryz.prog,42,[],[]⟩ rfl Tryz.func18 rfl rfl (lb_ rfl) (by kernel_rfl) ?_
 unfold lI at c
 refine ai (jU 0 (.inl rfl) (Campaign.v a) rfl rfl wz (λy=>jU 0 (.inl rfl) (Spot.v b) rfl rfl wz (λm=>aa (vB false) (af (ak (ak ?_))))))
 obtain ⟨H,j,c⟩:=bind_some c
 refine aU [(2,(.ref y 0 0)),(3,(.ref m 0 0)),(24,(vB H))] [(y,some (.cells 8 (Campaign.v a))),(m,some (.cells 5 (Spot.v b)))] ?_ ?_
 ·refine au (aI El rfl 1 rfl wz (aI mg rfl 1 rfl wz (aH 0 1 il ft sz3 ag3 rfl rfl (vI b.Time.From) rfl wz (aI uB rfl 2 rfl wz (aI mg rfl 2 rfl wz (aH 0 0 il ft sz3 ag3 rfl rfl (vI a.Time.From) rfl wz (aa (vB (decide (b.Time.From<a.Time.From))) ?_)))))))
  rcases aj j with⟨o,j⟩|⟨o,j⟩
  ·refine aB rfl o wz (ah (ah (ah (ah (ah (ah (ah (aa (vB true) (af ?_)))))))))
   obtain rfl:=ae j
   exact cu
  ·refine aB rfl o wz (aI El rfl 1 rfl wa (aI mI rfl 2 rfl wa (aH 0 1 il ft sz3 ag3 rfl rfl (vI b.Time.To) rfl wa (aI uB rfl 2 rfl wa (aI mI rfl 3 rfl wa (aH 0 0 il ft sz3 ag3 rfl rfl (vI a.Time.To) rfl wa (aL (vB (decide (b.Time.To>a.Time.To))) wa rfl (aa (vB (decide (b.Time.To>a.Time.To))) (af ?_)))))))))
   obtain rfl:=ae j
   exact cu
 ·rintro ⟨⟩ _ G A t u
  refine aR _ t u ?_
  rcases aj c with⟨p,c⟩|⟨p,c⟩
  ·refine aA rfl p (ai (aa (vB false) (af ?_)))
   obtain rfl:=ae c
   exact aC (aO [(vB false)] ⟨rfl,trivial⟩)
  ·refine ay rfl p (ax (ak (ai (aI Ir rfl 4 rfl wz (aH 0 0 il ft Jn M6 rfl rfl (vL eS a.Tags) rfl wz (bQ Et rfl wz (aa (vI 0) (af ?_))))))))
   obtain ⟨F,q,c⟩:=bind_some c
   obtain ⟨B,q⟩:=bn q
   refine dB (λ(l:Unit)=>[]) (λ(l:Unit)=>[(y,some (.cells 8 (Campaign.v a))),(m,some (.cells 5 (Spot.v b)))]) (λ(i:Nat)=>(λ(l:Unit)=>[(3,(.ref m 0 0)),(26,(vL eS a.Tags)),(27,(vI (a.Tags.length:Int))),(28,(vI (i:Int)))])) (λk x s=>jf b k x s) F a.Tags () q rfl (aK rfl) ?_ ?_
   ·rintro ⟨i,w,l⟩ ⟨h,g⟩
    dsimp only at h g
    cases w with
    | nil =>
     obtain rfl:=ae h
     refine ai (aa (vB (decide ((i:Int)<(a.Tags.length:Int)))) (af ?_))
     refine ak (ay rfl (drop_nil g) (aY ?_))
     exact aW (l) rfl rfl (aK rfl)
    | cons z w =>
     obtain ⟨I,e,h⟩:=bind_some h
     refine ai (aa (vB (decide ((i:Int)<(a.Tags.length:Int)))) (af ?_))
     refine ak (aA rfl (bE g) (ax ?_))
     unfold jf at e
     refine ak (aQ (ai (dI wW rfl rfl (bN g) rfl wz (bH sz9 ag9 rfl (vS z) rfl wz (aa (vS z) (af (ai (aI Ih rfl 4 rfl wz (aH 0 1 il ft Jn M6 rfl rfl (vL eS b.Tags) rfl wz (aa (vS z) ?_))))))))))
     obtain ⟨f,E,e⟩:=bind_some e
     refine aG (nE E) rfl hb40 rfl rfl rfl rfl wz (aa (.tup [(vI f.1),(vB f.2)]) (aa (vI f.1) (aa (vB f.2) (aa (vI f.1) (aa (vB f.2) (af (ai (aa (vB f.2) (aa (vB (!f.2)) (af ?_))))))))))
     rcases aj e with⟨n,e⟩|⟨n,e⟩
     ·refine aA rfl n (ai (aa (vB false) (af ?_)))
      obtain rfl:=ae e
      obtain rfl:=ae h
      obtain rfl:=ae c
      exact aC (aO [(vB false)] ⟨rfl,trivial⟩)
     ·refine ay rfl n (ax (au (dS (bC g B) wz rfl (aa (vI ((i+1:Nat):Int)) (af ?_)))))
      obtain rfl:=ae e
      exact aZ (i+1,w,()) ⟨h,aV g⟩ (ls_ _) rfl (aK rfl)
   ·rintro l C G A t u
    subst C
    refine aR _ t u (ai (aa (vB true) (af ?_)))
    obtain rfl:=ae c
    exact aC (aO [(vB true)] ⟨rfl,trivial⟩)
theorem nA {a:Web} {b:Int} {r:Int} (c:iC a b=some r) :
  FnM Tryz.prog 20 [(.ref (av 0) 0 0),(vI b)] (lh 2 1 eI [(vI a.f_camps)] a.f_can) (vI r) (iq 2 1 eI [(vI a.f_camps)] a.f_can):=by
 refine FnM.of_wHg (cs:=[(vI a.f_camps)]) ⟨Tryz.prog,12,[],[]⟩ rfl Tryz.func20 rfl rfl (lb_ rfl) (by kernel_rfl) ?_
 unfold iC at c
 refine ai (aa (vI 0) (af (ai (aa (.ref (av 0) 0 0) (aa (.ref (av 0) 0 0) (aI pl72_1 rfl 1 rfl wz (aH 0 0 il ft sz3 ag3 rfl rfl (vI a.f_camps) rfl wz (aa (vI (w64 (2+a.f_camps))) (aa (vI b) (aa (vI (w64 ((w64 (2+a.f_camps))+b))) (aa (vI (w64 ((w64 (2+a.f_camps))+b))) (af ?_))))))))))))
 obtain rfl:=ae c
 exact aC (NT (k:=2) (cs:=[(vI a.f_camps)]) (cs':=[(vI a.f_camps)]) (rows:=a.f_can) (rows':=a.f_can) ([]:Hp) (.inr rfl) [(vI (w64 ((w64 (2+a.f_camps))+b)))] ⟨rfl,trivial⟩ rfl rfl rfl rfl rfl rfl)
end Go.Proofs.YtkjlhdminmpmkaaGreatDoor.Law

