/-
 The machine computes these plain functions (written by a program of ours).
-/
import Derived.Test.YtadpbmfnnlkdlabGreatDoorFacts
import Derived.Test.YtadpbmfnnlkdlabGreatDoorDefs
open Go Go.Eng Go.Proofs
namespace Go.Proofs.YtadpbmfnnlkdlabGreatDoor.Law
set_option maxRecDepth 100000
set_option linter.unusedVariables false
set_option maxHeartbeats 1000000
theorem zo {h:Int} {b:Int} {r:Int} (a:uG h b=some r) :
  FnM Tryz.prog 40 [(vI h),(vI b)] [] (vI r) []:=by
 refine FnM.of_wH ⟨Tryz.prog,16,[],[]⟩ rfl Tryz.func40 rfl rfl (lb_ rfl) (by kernel_rfl) ?_
 unfold uG at a
 refine aj (aa (vI 0) (ah (au (aj (aa (vI b) (aa (vB (decide (b<1))) (ah ?_)))))))
 rcases ak a with⟨f,a⟩|⟨f,a⟩
 ·refine aB rfl f (aj (aa (vI 0) (ah ?_)))
  obtain rfl:=af a
  exact aC (aL [(vI 0)] ⟨rfl,trivial⟩)
 ·refine aA rfl f (ax (aj (aa (vI h) (aa (vI b) ?_))))
  obtain ⟨c,k,a⟩:=bind_some a
  refine QK rfl rfl k wz (aa (vI c) (ah (au (aj (aa (vI c) (aa (vB (decide (c<0))) (ah ?_)))))))
  obtain ⟨e,d,a⟩:=bind_some a
  refine aP [(0,(vI e))] [] ?_ ?_
  ·rcases ak d with⟨g,d⟩|⟨g,d⟩
   ·refine aB rfl g (av (aa (vI c) (aa (vI b) (aa (vI (w64 (c+b))) (aa (vI (w64 (c+b))) (ah ?_))))))
    obtain rfl:=af d
    exact cu
   ·refine aA rfl g (ax ?_)
    obtain rfl:=af d
    exact cu
  ·rintro ⟨⟩ _ m l i j
   refine aN _ i j (aj (aa (vI e) (aa (vI e) (ah ?_))))
   obtain rfl:=af a
   exact aC (aL [(vI e)] ⟨rfl,trivial⟩)
theorem jY {a:Stream} {d:Int} {r:Int×Stream} (b:ik a d=some r) :
  FnM Tryz.prog 21 [(.ref (aG 0) 0 0),(vI d)] [(.cells 2 [(vL eI a.L),(vI a.f_at)])] (vI r.1) [some (.cells 2 [(vL eI r.2.L),(vI r.2.f_at)])]:=by
 refine FnM.of_wH ⟨Tryz.prog,64,[],[]⟩ rfl Tryz.func21 rfl rfl (lb_ rfl) (by kernel_rfl) ?_
 unfold ik at b
 refine aj (aa (vI 0) (ah (aj (aa (.ref (aG 0) 0 0) (aa (.ref (aG 0) 0 0) (aH Hq rfl 1 rfl wz (ay 0 0 il ft sz3 ag3 rfl rfl (vI a.f_at) rfl wz (aa (vI (w64 (a.f_at+1))) (aa (.ref (aG 0) 0 0) (aH Hq rfl 1 rfl wz (dY 0 il ft 0 sz3 rfl rfl [(vL eI a.L),(vI (w64 (a.f_at+1)))] rfl wz (ah (au (aj (aa (.ref (aG 0) 0 0) (aa (.ref (aG 0) 0 0) (aH Jn rfl 0 rfl wz (ay 0 0 il ft sF xE rfl rfl (vL eI a.L) rfl wz (bS sN rfl wz (aa (vB ((a.L.length:Int)==0)) (ah ?_)))))))))))))))))))))
 rcases ak b with⟨f,b⟩|⟨f,b⟩
 ·refine aB rfl f (aj (aa (.ref (aG 0) 0 0) (aa (.ref (aG 0) 0 0) (aH Hq rfl 1 rfl wz (ay 0 0 il ft sz3 ag3 rfl rfl (vI (w64 (a.f_at+1))) rfl wz (aa (vI (w64 ((w64 (a.f_at+1))*7919))) (aa (vI d) ?_)))))))
  obtain ⟨h,k,b⟩:=bind_some b
  refine aF (zo k) rfl hb40 rfl rfl rfl rfl wz (aa (vI h) (ah ?_))
  obtain rfl:=af b
  exact aC (Ar (.inr rfl) [(vI h)] _ [0] [aG 0] ⟨rfl,trivial⟩ (.cons (kK rfl rfl) (.nil)) (by kernel_rfl) ⟨(by kernel_rfl),trivial⟩ (by decide) (by kernel_rfl))
 ·refine aA rfl f (ax (au (bI (aa (.ref (aG 0) 0 0) (aa (.ref (aG 0) 0 0) (aH Hq rfl 1 rfl wz (ay 3 0 (.inr (by kernel_rfl)) (λ_ _ ag=>trivial) sz3 ag3 rfl rfl (vI (w64 (a.f_at+1))) rfl wz (aa (vI (w64 ((w64 (a.f_at+1))-1))) (aa (.ref (aG 0) 0 0) (aa (.ref (aG 0) 0 0) (aH Jn rfl 0 rfl wz (ay 8 0 (.inr (by kernel_rfl)) (λ_ _ ag=>⟨.inl ⟨rfl,rfl⟩,trivial⟩) sF xE rfl rfl (vL eI a.L) rfl wz (bS sN rfl wz ?_)))))))))))))
  obtain ⟨c,m,b⟩:=bind_some b
  refine QK rfl rfl m wz (aa (vI c) (ah (au (bI (aa (.ref (aG 0) 0 0) (aa (.ref (aG 0) 0 0) (aH Hq rfl 1 rfl wz (ay 3 0 (.inr (by kernel_rfl)) (λ_ _ ag=>trivial) sz3 ag3 rfl rfl (vI (w64 (a.f_at+1))) rfl wz (aa (vI (w64 ((w64 (a.f_at+1))-1))) (aa (.ref (aG 0) 0 0) (aa (.ref (aG 0) 0 0) (aH Jn rfl 0 rfl wz (ay 8 0 (.inr (by kernel_rfl)) (λ_ _ ag=>⟨.inl ⟨rfl,rfl⟩,trivial⟩) sF xE rfl rfl (vL eI a.L) rfl wz (bS sN rfl wz ?_))))))))))))))
  obtain ⟨e,n,b⟩:=bind_some b
  refine QM rfl rfl n wz (aa (vI e) (ah (aN (H0:=([((aG 0),some (.cells 2 [(vL eI a.L),(vI (w64 (a.f_at+1)))]))]:Hp)) ([(0,(.ref (aG 0) 0 0)),(1,(vI d)),(5,(vI c)),(6,(vI e))]:SL_) (by kernel_rfl) (wy (by kernel_rfl)) (aj (aa (.ref (aG 0) 0 0) (aa (.ref (aG 0) 0 0) (aH Jn rfl 0 rfl wz (ay 0 0 il ft sF xE rfl rfl (vL eI a.L) rfl wz (aa (vI c) ?_)))))))))
  obtain ⟨p,l,b⟩:=bind_some b
  refine dR ko rfl rfl l rfl wz (bN sz3 ag3 rfl (vI p) rfl wz ?_)
  obtain ⟨o,i,b⟩:=bind_some b
  refine aF (zo i) rfl hb40 rfl rfl rfl rfl wz (aa (vI e) (aa (vI c) (aa (vI (w64 (7919+c))) (aa (vI (w64 (e*(w64 (7919+c))))) (aa (vI (w64 (o+(w64 (e*(w64 (7919+c))))))) (aa (vI d) ?_))))))
  obtain ⟨g,j,b⟩:=bind_some b
  refine aF (zo j) rfl hb40 rfl rfl rfl rfl wz (aa (vI g) (ah ?_))
  obtain rfl:=af b
  exact aC (Ar (.inr rfl) [(vI g)] _ [0] [aG 0] ⟨rfl,trivial⟩ (.cons (kK rfl rfl) (.nil)) (by kernel_rfl) ⟨(by kernel_rfl),trivial⟩ (by decide) (by kernel_rfl))
theorem mq {d:Stream} {c:Int} {r:Bool×Stream} (b:iq d c=some r) :
  FnM Tryz.prog 17 [(.ref (aG 0) 0 0),(vI c)] [(.cells 2 [(vL eI d.L),(vI d.f_at)])] (vB r.1) [some (.cells 2 [(vL eI r.2.L),(vI r.2.f_at)])]:=by
 refine FnM.of_wH ⟨Tryz.prog,9,[],[]⟩ rfl Tryz.func17 rfl rfl (lb_ rfl) (by kernel_rfl) ?_
 unfold iq at b
 refine aj (aa (vB false) (ah (aj (aa (.ref (aG 0) 0 0) (aa (vI c) ?_)))))
 obtain ⟨a,e,b⟩:=bind_some b
 refine fu 0 [0] il ft (jY e) rfl QI rfl (by kernel_rfl) (by kernel_rfl) (by kernel_rfl) (by kernel_rfl) (by kernel_rfl) (by kernel_rfl) (by kernel_rfl) (by decide) (by kernel_rfl) wz (vI a.1) (by kernel_rfl) ([((aG 0),some (.cells 2 [(vL eI a.2.L),(vI a.2.f_at)]))]:Hp) (by kernel_rfl) (aa (vB (a.1==0)) (aa (vB (a.1==0)) (ah ?_)))
 obtain rfl:=af b
 exact aC (Ar (.inr rfl) [(vB (a.1==0))] _ [0] [aG 0] ⟨rfl,trivial⟩ (.cons (kK rfl rfl) (.nil)) (by kernel_rfl) ⟨(by kernel_rfl),trivial⟩ (by decide) (by kernel_rfl))
theorem Cr {d:Stream} {b:(List ByteArray)} {r:ByteArray×Stream} (a:ny d b=some r) :
  FnM Tryz.prog 18 [(.ref (aG 0) 0 0),(vL eS b)] [(.cells 2 [(vL eI d.L),(vI d.f_at)])] (vS r.1) [some (.cells 2 [(vL eI r.2.L),(vI r.2.f_at)])]:=by
 refine FnM.of_wH ⟨Tryz.prog,12,[],[]⟩ rfl Tryz.func18 rfl rfl (lb_ rfl) (by kernel_rfl) ?_
 unfold ny at a
 refine aj (aa (vS (⟨#[]⟩:ByteArray)) (ah (aj (aa (vL eS b) (aa (.ref (aG 0) 0 0) (aa (vL eS b) (bS yz rfl wz ?_)))))))
 obtain ⟨c,f,a⟩:=bind_some a
 refine fu 0 [0] il ft (jY f) rfl QI rfl (by kernel_rfl) (by kernel_rfl) (by kernel_rfl) (by kernel_rfl) (by kernel_rfl) (by kernel_rfl) (by kernel_rfl) (by decide) (by kernel_rfl) wz (vI c.1) (by kernel_rfl) ([((aG 0),some (.cells 2 [(vL eI c.2.L),(vI c.2.f_at)]))]:Hp) (by kernel_rfl) ?_
 obtain ⟨e,g,a⟩:=bind_some a
 refine dR qW rfl rfl g rfl wz (bN sz9 ag9 rfl (vS e) rfl wz (aa (vS e) (ah ?_)))
 obtain rfl:=af a
 exact aC (Ar (.inr rfl) [(vS e)] _ [0] [aG 0] ⟨rfl,trivial⟩ (.cons (kK rfl rfl) (.nil)) (by kernel_rfl) ⟨(by kernel_rfl),trivial⟩ (by decide) (by kernel_rfl))
theorem BB {f:Stream} {a:Int} {c:Int} {r:Int×Stream} (b:lM f a c=some r) :
  FnM Tryz.prog 19 [(.ref (aG 0) 0 0),(vI a),(vI c)] [(.cells 2 [(vL eI f.L),(vI f.f_at)])] (vI r.1) [some (.cells 2 [(vL eI r.2.L),(vI r.2.f_at)])]:=by
 refine FnM.of_wH ⟨Tryz.prog,19,[],[]⟩ rfl Tryz.func19 rfl rfl (lb_ rfl) (by kernel_rfl) ?_
 unfold lM at b
 refine aj (aa (vI 0) (ah (au (aj (aa (vI c) (aa (vI a) (aa (vB (decide (c<a))) (ah ?_))))))))
 rcases ak b with⟨e,b⟩|⟨e,b⟩
 ·refine aB rfl e (aj (aa (vI a) (aa (vI a) (ah ?_))))
  obtain rfl:=af b
  exact aC (Ar (.inr rfl) [(vI a)] _ [0] [aG 0] ⟨rfl,trivial⟩ (.cons (kK rfl rfl) (.nil)) (by kernel_rfl) ⟨(by kernel_rfl),trivial⟩ (by decide) (by kernel_rfl))
 ·refine aA rfl e (ax (aj (aa (vI a) (aa (.ref (aG 0) 0 0) (aa (vI c) (aa (vI a) (aa (vI (w64 (c-a))) (aa (vI (w64 ((w64 (c-a))+1))) ?_))))))))
  obtain ⟨d,g,b⟩:=bind_some b
  refine fu 0 [0] il ft (jY g) rfl QI rfl (by kernel_rfl) (by kernel_rfl) (by kernel_rfl) (by kernel_rfl) (by kernel_rfl) (by kernel_rfl) (by kernel_rfl) (by decide) (by kernel_rfl) wz (vI d.1) (by kernel_rfl) ([((aG 0),some (.cells 2 [(vL eI d.2.L),(vI d.2.f_at)]))]:Hp) (by kernel_rfl) (aa (vI (w64 (a+d.1))) (aa (vI (w64 (a+d.1))) (ah ?_)))
  obtain rfl:=af b
  exact aC (Ar (.inr rfl) [(vI (w64 (a+d.1)))] _ [0] [aG 0] ⟨rfl,trivial⟩ (.cons (kK rfl rfl) (.nil)) (by kernel_rfl) ⟨(by kernel_rfl),trivial⟩ (by decide) (by kernel_rfl))
theorem gm {d:Stream} {b:(List Int)} {r:Int×Stream} (a:eT d b=some r) :
  FnM Tryz.prog 20 [(.ref (aG 0) 0 0),(vL eI b)] [(.cells 2 [(vL eI d.L),(vI d.f_at)])] (vI r.1) [some (.cells 2 [(vL eI r.2.L),(vI r.2.f_at)])]:=by
 refine FnM.of_wH ⟨Tryz.prog,12,[],[]⟩ rfl Tryz.func20 rfl rfl (lb_ rfl) (by kernel_rfl) ?_
 unfold eT at a
 refine aj (aa (vI 0) (ah (aj (aa (vL eI b) (aa (.ref (aG 0) 0 0) (aa (vL eI b) (bS sN rfl wz ?_)))))))
 obtain ⟨c,f,a⟩:=bind_some a
 refine fu 0 [0] il ft (jY f) rfl QI rfl (by kernel_rfl) (by kernel_rfl) (by kernel_rfl) (by kernel_rfl) (by kernel_rfl) (by kernel_rfl) (by kernel_rfl) (by decide) (by kernel_rfl) wz (vI c.1) (by kernel_rfl) ([((aG 0),some (.cells 2 [(vL eI c.2.L),(vI c.2.f_at)]))]:Hp) (by kernel_rfl) ?_
 obtain ⟨e,g,a⟩:=bind_some a
 refine dR ko rfl rfl g rfl wz (bN sz3 ag3 rfl (vI e) rfl wz (aa (vI e) (ah ?_)))
 obtain rfl:=af a
 exact aC (Ar (.inr rfl) [(vI e)] _ [0] [aG 0] ⟨rfl,trivial⟩ (.cons (kK rfl rfl) (.nil)) (by kernel_rfl) ⟨(by kernel_rfl),trivial⟩ (by decide) (by kernel_rfl))
theorem nW {Á:Stream} {r:(List Entry)×Stream} (Ã:fM Á=some r) :
  FnM Tryz.prog 4 [(.ref (aG 0) 0 0)] [(.cells 2 [(vL eI Á.L),(vI Á.f_at)])] (vL Entry.enc r.1) [some (.cells 2 [(vL eI r.2.L),(vI r.2.f_at)])]:=by
 refine FnM.of_wH ⟨Tryz.prog,89,[],[]⟩ rfl Tryz.func4 rfl rfl (lb_ rfl) (by kernel_rfl) ?_
 unfold fM at Ã
 refine aj (aa .nil (ah (aj (aa .nil (ah (au (aj (eP (([(⟨#[101,97]⟩:ByteArray),(⟨#[101,98]⟩:ByteArray),(⟨#[101,99]⟩:ByteArray),(⟨#[101,100]⟩:ByteArray)]:List ByteArray).map eS) qW Gq rfl rfl rfl rfl rfl wz (bS yz rfl wz (aa (vI 0) (ah (iO (λï => ?_)))))))))))))
 obtain ⟨ð,Ë,Ã⟩:=bind_some Ã
 obtain ⟨Ô,Ë⟩:=aW Ë
 refine gH (σ:=(List Entry)×(List Int)×Int) (N:=Nm) (λp=>(λ(a:(List Entry)×(List Int)×Int) (b:Nm)=>([(3,(gV b 13 a.1))]:SL_)) p.1 p.2) (λp=>(λ(a:(List Entry)×(List Int)×Int) (b:Nm)=>([((aG 0),some (.cells 2 [(vL eI a.2.1),(vI a.2.2)])),(b,gB 13 Entry.enc a.1)]:Hp)) p.1 p.2) (λ(z:Nat)=>(λp=>(λ(a:(List Entry)×(List Int)×Int) (b:Nm)=>([(0,(.ref (aG 0) 0 0)),(3,(gV b 13 a.1)),(11,(vL eS ([(⟨#[101,97]⟩:ByteArray),(⟨#[101,98]⟩:ByteArray),(⟨#[101,99]⟩:ByteArray),(⟨#[101,100]⟩:ByteArray)]:List ByteArray))),(12,(vI (([(⟨#[101,97]⟩:ByteArray),(⟨#[101,98]⟩:ByteArray),(⟨#[101,99]⟩:ByteArray),(⟨#[101,100]⟩:ByteArray)]:List ByteArray).length:Int))),(13,(vI (z:Int)))]:SL_)) p.1 p.2)) (λk x s=>eG k x s) ð ([(⟨#[101,97]⟩:ByteArray),(⟨#[101,98]⟩:ByteArray),(⟨#[101,99]⟩:ByteArray),(⟨#[101,100]⟩:ByteArray)]:List ByteArray) ((([]:List Entry),Á.L,Á.f_at),ï) Ë rfl (aI rfl) ?_ ?_
 ·rintro ⟨z,Ä,a,b⟩ ⟨Q,F⟩
  dsimp only at Q F
  cases Ä with
  | nil =>
   obtain rfl:=af Q
   refine aj (aa (vB (decide ((z:Int)<(([(⟨#[101,97]⟩:ByteArray),(⟨#[101,98]⟩:ByteArray),(⟨#[101,99]⟩:ByteArray),(⟨#[101,100]⟩:ByteArray)]:List ByteArray).length:Int)))) (ah ?_))
   refine au (aA rfl (drop_nil F) (aS ?_))
   exact aV (a,b) rfl rfl (aI rfl)
  | cons u Ä =>
   obtain ⟨Ó,c,Q⟩:=bind_some Q
   refine aj (aa (vB (decide ((z:Int)<(([(⟨#[101,97]⟩:ByteArray),(⟨#[101,98]⟩:ByteArray),(⟨#[101,99]⟩:ByteArray),(⟨#[101,100]⟩:ByteArray)]:List ByteArray).length:Int)))) (ah ?_))
   refine au (aB rfl (bv F) (ax ?_))
   unfold eG at c
   refine au (aM (aj (dR qW rfl rfl (bJ F) rfl wz (bN sz9 ag9 rfl (vS u) rfl wz (aa (vS u) (ah (au (aj (aa (.ref (aG 0) 0 0) ?_)))))))))
   obtain ⟨À,Ý,c⟩:=bind_some c
   refine fu 0 [0] il ft (mq Ý) rfl hb17 rfl (by kernel_rfl) (by kernel_rfl) (by kernel_rfl) (by kernel_rfl) (by kernel_rfl) (by kernel_rfl) (by kernel_rfl) (by decide) (by kernel_rfl) wz (vB À.1) (by kernel_rfl) ([((aG 0),some (.cells 2 [(vL eI À.2.L),(vI À.2.f_at)])),(b,gB 13 Entry.enc a.1)]:Hp) (by kernel_rfl) (ah ?_)
   rcases ak c with⟨È,c⟩|⟨È,c⟩
   ·refine aB rfl È (aS (av (dX (bD F Ô) wz rfl (aa (vI ((z+1:Nat):Int)) (ah ?_)))))
    obtain rfl:=af c
    exact aU (z+1,Ä,(a.1,À.2.L,À.2.f_at),b) ⟨Q,aQ F⟩ (ls_ _) rfl (aI rfl)
   ·refine aA rfl È (ax (aj (aa (vS u) (aa (.ref (aG 0) 0 0) (eP (([(⟨#[105,97]⟩:ByteArray),(⟨#[105,98]⟩:ByteArray),(⟨#[105,99]⟩:ByteArray)]:List ByteArray).map eS) qW Gq rfl rfl rfl rfl rfl wz ?_)))))
    obtain ⟨h,Þ,c⟩:=bind_some c
    refine fu 0 [0] il ft (Cr Þ) rfl hb18 rfl (by kernel_rfl) (by kernel_rfl) (by kernel_rfl) (by kernel_rfl) (by kernel_rfl) (by kernel_rfl) (by kernel_rfl) (by decide) (by kernel_rfl) wz (vS h.1) (by kernel_rfl) ([((aG 0),some (.cells 2 [(vL eI h.2.L),(vI h.2.f_at)])),(b,gB 13 Entry.enc a.1)]:Hp) (by kernel_rfl) (aa (.ref (aG 0) 0 0) ?_)
    obtain ⟨l,ß,c⟩:=bind_some c
    refine fu 0 [0] il ft (BB ß) rfl hb19 rfl (by kernel_rfl) (by kernel_rfl) (by kernel_rfl) (by kernel_rfl) (by kernel_rfl) (by kernel_rfl) (by kernel_rfl) (by decide) (by kernel_rfl) wz (vI l.1) (by kernel_rfl) ([((aG 0),some (.cells 2 [(vL eI l.2.L),(vI l.2.f_at)])),(b,gB 13 Entry.enc a.1)]:Hp) (by kernel_rfl) (aa (.ref (aG 0) 0 0) (eP (([0,0,1,3]:List Int).map eI) ko yQ rfl rfl rfl rfl rfl wz ?_))
    obtain ⟨e,à,c⟩:=bind_some c
    refine fu 0 [0] il ft (gm à) rfl Kw rfl (by kernel_rfl) (by kernel_rfl) (by kernel_rfl) (by kernel_rfl) (by kernel_rfl) (by kernel_rfl) (by kernel_rfl) (by decide) (by kernel_rfl) wz (vI e.1) (by kernel_rfl) ([((aG 0),some (.cells 2 [(vL eI e.2.L),(vI e.2.f_at)])),(b,gB 13 Entry.enc a.1)]:Hp) (by kernel_rfl) (aa (.ref (aG 0) 0 0) (eP (([1,1,2,3,7]:List Int).map eI) ko yQ rfl rfl rfl rfl rfl wz ?_))
    obtain ⟨m,á,c⟩:=bind_some c
    refine fu 0 [0] il ft (gm á) rfl Kw rfl (by kernel_rfl) (by kernel_rfl) (by kernel_rfl) (by kernel_rfl) (by kernel_rfl) (by kernel_rfl) (by kernel_rfl) (by decide) (by kernel_rfl) wz (vI m.1) (by kernel_rfl) ([((aG 0),some (.cells 2 [(vL eI m.2.L),(vI m.2.f_at)])),(b,gB 13 Entry.enc a.1)]:Hp) (by kernel_rfl) (aa (.ref (aG 0) 0 0) (eP (([127,127,31,96,1,2]:List Int).map eI) ko yQ rfl rfl rfl rfl rfl wz ?_))
    obtain ⟨n,â,c⟩:=bind_some c
    refine fu 0 [0] il ft (gm â) rfl Kw rfl (by kernel_rfl) (by kernel_rfl) (by kernel_rfl) (by kernel_rfl) (by kernel_rfl) (by kernel_rfl) (by kernel_rfl) (by decide) (by kernel_rfl) wz (vI n.1) (by kernel_rfl) ([((aG 0),some (.cells 2 [(vL eI n.2.L),(vI n.2.f_at)])),(b,gB 13 Entry.enc a.1)]:Hp) (by kernel_rfl) (aa (.ref (aG 0) 0 0) (eP (([0,0,60,600,1380]:List Int).map eI) ko yQ rfl rfl rfl rfl rfl wz ?_))
    obtain ⟨o,ã,c⟩:=bind_some c
    refine fu 0 [0] il ft (gm ã) rfl Kw rfl (by kernel_rfl) (by kernel_rfl) (by kernel_rfl) (by kernel_rfl) (by kernel_rfl) (by kernel_rfl) (by kernel_rfl) (by decide) (by kernel_rfl) wz (vI o.1) (by kernel_rfl) ([((aG 0),some (.cells 2 [(vL eI o.2.L),(vI o.2.f_at)])),(b,gB 13 Entry.enc a.1)]:Hp) (by kernel_rfl) (aa (.ref (aG 0) 0 0) (eP (([0,60,120,600,720,1439]:List Int).map eI) ko yQ rfl rfl rfl rfl rfl wz ?_))
    obtain ⟨q,ä,c⟩:=bind_some c
    refine fu 0 [0] il ft (gm ä) rfl Kw rfl (by kernel_rfl) (by kernel_rfl) (by kernel_rfl) (by kernel_rfl) (by kernel_rfl) (by kernel_rfl) (by kernel_rfl) (by decide) (by kernel_rfl) wz (vI q.1) (by kernel_rfl) ([((aG 0),some (.cells 2 [(vL eI q.2.L),(vI q.2.f_at)])),(b,gB 13 Entry.enc a.1)]:Hp) (by kernel_rfl) (aa (.ref (aG 0) 0 0) (eP (([0,0,1,5]:List Int).map eI) ko yQ rfl rfl rfl rfl rfl wz ?_))
    obtain ⟨t,å,c⟩:=bind_some c
    refine fu 0 [0] il ft (gm å) rfl Kw rfl (by kernel_rfl) (by kernel_rfl) (by kernel_rfl) (by kernel_rfl) (by kernel_rfl) (by kernel_rfl) (by kernel_rfl) (by decide) (by kernel_rfl) wz (vI t.1) (by kernel_rfl) ([((aG 0),some (.cells 2 [(vL eI t.2.L),(vI t.2.f_at)])),(b,gB 13 Entry.enc a.1)]:Hp) (by kernel_rfl) (aa (.ref (aG 0) 0 0) ?_)
    obtain ⟨g,æ,c⟩:=bind_some c
    refine fu 0 [0] il ft (mq æ) rfl hb17 rfl (by kernel_rfl) (by kernel_rfl) (by kernel_rfl) (by kernel_rfl) (by kernel_rfl) (by kernel_rfl) (by kernel_rfl) (by decide) (by kernel_rfl) wz (vB g.1) (by kernel_rfl) ([((aG 0),some (.cells 2 [(vL eI g.2.L),(vI g.2.f_at)])),(b,gB 13 Entry.enc a.1)]:Hp) (by kernel_rfl) (aK (.agg [(vS u),(vS h.1),(vI l.1),(vI e.1),(vI 0),(vI m.1),(vI n.1),.nil,(vI o.1),(vI q.1),(vI t.1),.nil,(vB g.1)]) wz (by kernel_rfl) (bZ 0 (.inl rfl) z37 rfl wz (λA=>dY 0 il ft 2 kH rfl rfl [(vS u),(vS h.1),(vI l.1),(vI e.1),(vI 0),(vI m.1),(vI n.1),.nil,(vI o.1),(vI q.1),(vI t.1),.nil,(vB g.1)] rfl wz (ah (aN (H0:=([((aG 0),some (.cells 2 [(vL eI g.2.L),(vI g.2.f_at)])),(b,gB 13 Entry.enc a.1),(A,some (.cells 13 [(vS u),(vS h.1),(vI l.1),(vI e.1),(vI 0),(vI m.1),(vI n.1),.nil,(vI o.1),(vI q.1),(vI t.1),.nil,(vB g.1)]))]:Hp)) ([(0,(.ref (aG 0) 0 0)),(3,(gV b 13 a.1)),(6,(.ref A 0 0)),(11,(vL eS ([(⟨#[101,97]⟩:ByteArray),(⟨#[101,98]⟩:ByteArray),(⟨#[101,99]⟩:ByteArray),(⟨#[101,100]⟩:ByteArray)]:List ByteArray))),(12,(vI (([(⟨#[101,97]⟩:ByteArray),(⟨#[101,98]⟩:ByteArray),(⟨#[101,99]⟩:ByteArray),(⟨#[101,100]⟩:ByteArray)]:List ByteArray).length:Int))),(13,(vI (z:Int)))]:SL_) (by kernel_rfl) (wy (by kernel_rfl)) (au (bI (aH yf rfl 3 rfl wz (ay 1 2 (.inr (by kernel_rfl)) (λ_ _ ag=>trivial) sz3 ag3 rfl rfl (vI e.1) rfl wz (aa (.ref (aG 0) 0 0) (eP (([0,1,5,10,30]:List Int).map eI) ko yQ rfl rfl rfl rfl rfl wz ?_)))))))))))
    obtain ⟨w,ç,c⟩:=bind_some c
    refine fu 4 [0] (.inr (by kernel_rfl)) (λ_ _ ag=>by exact⟨.inr (.inl (dis1 (ag_ne ag (i:=0) (j:=2) rfl rfl (by decide)))),trivial⟩) (gm ç) rfl Kw rfl (by kernel_rfl) (by kernel_rfl) (by kernel_rfl) (by kernel_rfl) (by kernel_rfl) (by kernel_rfl) (by kernel_rfl) (by decide) (by kernel_rfl) wz (vI w.1) (by kernel_rfl) ([((aG 0),some (.cells 2 [(vL eI w.2.L),(vI w.2.f_at)])),(b,gB 13 Entry.enc a.1),(A,some (.cells 13 [(vS u),(vS h.1),(vI l.1),(vI e.1),(vI 0),(vI m.1),(vI n.1),.nil,(vI o.1),(vI q.1),(vI t.1),.nil,(vB g.1)]))]:Hp) (by kernel_rfl) (aa (vI (w64 (e.1+w.1))) (aH xM rfl 4 rfl wz (dY 7 (.inr (by kernel_rfl)) (λ_ _ ag=>⟨.inr (.inr (by kernel_rfl)),⟨.inr (.inr (by kernel_rfl)),trivial⟩⟩) 2 sz3 rfl rfl [(vS u),(vS h.1),(vI l.1),(vI e.1),(vI (w64 (e.1+w.1))),(vI m.1),(vI n.1),.nil,(vI o.1),(vI q.1),(vI t.1),.nil,(vB g.1)] rfl wz (ah (au (aj (eP (([1,2,8]:List Int).map eI) ko yQ rfl rfl rfl rfl rfl wz (bS sN rfl wz (aa (vI 0) (ah (iO (λí => ?_))))))))))))
    obtain ⟨ñ,Ì,c⟩:=bind_some c
    obtain ⟨Û,Ì⟩:=aW Ì
    refine gH (σ:=(List Int)×(List Int)×Int) (N:=Nm) (λp=>(λ(f:(List Int)×(List Int)×Int) (v:Nm)=>([(0,(.ref (aG 0) 0 0)),(3,(gV b 13 a.1)),(6,(.ref A 0 0)),(11,(vL eS ([(⟨#[101,97]⟩:ByteArray),(⟨#[101,98]⟩:ByteArray),(⟨#[101,99]⟩:ByteArray),(⟨#[101,100]⟩:ByteArray)]:List ByteArray))),(12,(vI (([(⟨#[101,97]⟩:ByteArray),(⟨#[101,98]⟩:ByteArray),(⟨#[101,99]⟩:ByteArray),(⟨#[101,100]⟩:ByteArray)]:List ByteArray).length:Int))),(13,(vI (z:Int)))]:SL_)) p.1 p.2) (λp=>(λ(f:(List Int)×(List Int)×Int) (v:Nm)=>([((aG 0),some (.cells 2 [(vL eI f.2.1),(vI f.2.2)])),(b,gB 13 Entry.enc a.1),(A,some (.cells 13 [(vS u),(vS h.1),(vI l.1),(vI e.1),(vI (w64 (e.1+w.1))),(vI m.1),(vI n.1),(gV v 1 f.1),(vI o.1),(vI q.1),(vI t.1),.nil,(vB g.1)])),(v,gB 1 eI f.1)]:Hp)) p.1 p.2) (λ(I:Nat)=>(λp=>(λ(f:(List Int)×(List Int)×Int) (v:Nm)=>([(0,(.ref (aG 0) 0 0)),(3,(gV b 13 a.1)),(6,(.ref A 0 0)),(11,(vL eS ([(⟨#[101,97]⟩:ByteArray),(⟨#[101,98]⟩:ByteArray),(⟨#[101,99]⟩:ByteArray),(⟨#[101,100]⟩:ByteArray)]:List ByteArray))),(12,(vI (([(⟨#[101,97]⟩:ByteArray),(⟨#[101,98]⟩:ByteArray),(⟨#[101,99]⟩:ByteArray),(⟨#[101,100]⟩:ByteArray)]:List ByteArray).length:Int))),(13,(vI (z:Int))),(53,(vL eI ([1,2,8]:List Int))),(54,(vI (([1,2,8]:List Int).length:Int))),(55,(vI (I:Int)))]:SL_)) p.1 p.2)) (λk x s=>iH k x s) ñ ([1,2,8]:List Int) ((([]:List Int),w.2.L,w.2.f_at),í) Ì rfl (aI rfl) ?_ ?_
    ·rintro ⟨I,Î,f,v⟩ ⟨U,O⟩
     dsimp only at U O
     cases Î with
     | nil =>
      obtain rfl:=af U
      refine aj (aa (vB (decide ((I:Int)<(([1,2,8]:List Int).length:Int)))) (ah ?_))
      refine au (aA rfl (drop_nil O) (aS ?_))
      exact aV (f,v) rfl rfl (aI rfl)
     | cons Æ Î =>
      obtain ⟨Ó,R,U⟩:=bind_some U
      refine aj (aa (vB (decide ((I:Int)<(([1,2,8]:List Int).length:Int)))) (ah ?_))
      refine au (aB rfl (bv O) (ax ?_))
      unfold iH at R
      refine au (aM (aj (dR ko rfl rfl (bJ O) rfl wz (bN sz3 ag3 rfl (vI Æ) rfl wz (aa (vI Æ) (ah (aj (aa (.ref (aG 0) 0 0) ?_))))))))
      obtain ⟨K,è,R⟩:=bind_some R
      refine fu 0 [0] il ft (mq è) rfl hb17 rfl (by kernel_rfl) (by kernel_rfl) (by kernel_rfl) (by kernel_rfl) (by kernel_rfl) (by kernel_rfl) (by kernel_rfl) (by decide) (by kernel_rfl) wz (vB K.1) (by kernel_rfl) ([((aG 0),some (.cells 2 [(vL eI K.2.L),(vI K.2.f_at)])),(b,gB 13 Entry.enc a.1),(A,some (.cells 13 [(vS u),(vS h.1),(vI l.1),(vI e.1),(vI (w64 (e.1+w.1))),(vI m.1),(vI n.1),(gV v 1 f.1),(vI o.1),(vI q.1),(vI t.1),.nil,(vB g.1)])),(v,gB 1 eI f.1)]:Hp) (by kernel_rfl) (ah ?_)
      obtain ⟨Ð,G,R⟩:=bind_some R
      refine lG (β:=Nm) (λ(Y:Nm)=>([(0,(.ref (aG 0) 0 0)),(3,(gV b 13 a.1)),(6,(.ref A 0 0)),(11,(vL eS ([(⟨#[101,97]⟩:ByteArray),(⟨#[101,98]⟩:ByteArray),(⟨#[101,99]⟩:ByteArray),(⟨#[101,100]⟩:ByteArray)]:List ByteArray))),(12,(vI (([(⟨#[101,97]⟩:ByteArray),(⟨#[101,98]⟩:ByteArray),(⟨#[101,99]⟩:ByteArray),(⟨#[101,100]⟩:ByteArray)]:List ByteArray).length:Int))),(13,(vI (z:Int))),(53,(vL eI ([1,2,8]:List Int))),(54,(vI (([1,2,8]:List Int).length:Int))),(55,(vI (I:Int)))]:SL_)) (λ(Y:Nm)=>([((aG 0),some (.cells 2 [(vL eI K.2.L),(vI K.2.f_at)])),(b,gB 13 Entry.enc a.1),(A,some (.cells 13 [(vS u),(vS h.1),(vI l.1),(vI e.1),(vI (w64 (e.1+w.1))),(vI m.1),(vI n.1),(gV Y 1 Ð),(vI o.1),(vI q.1),(vI t.1),.nil,(vB g.1)])),(Y,gB 1 eI Ð)]:Hp)) (λ_=>True) ?_ ?_
      ·rcases ak G with⟨É,G⟩|⟨É,G⟩
       ·refine aB rfl É (av (aH pU rfl 7 rfl wz (ay 0 2 il ft sF xE rfl rfl (gV v 1 f.1) rfl wz (aa (vI Æ) (eP (([Æ]:List Int).map eI) ko yQ rfl rfl rfl rfl rfl wz ?_)))))
        obtain ⟨Ù,ê,G⟩:=bind_some G
        refine kJ 0 il ft (i:=3) Jy Jy sz3 z3 rfl (by decide) by3 (by decide) (λ_=>rfl) rfl rfl rfl ê wz (λÕ=>aH pU rfl 7 rfl wz (dY 0 il ft 2 sF rfl rfl [(vS u),(vS h.1),(vI l.1),(vI e.1),(vI (w64 (e.1+w.1))),(vI m.1),(vI n.1),(gV Õ 1 Ù),(vI o.1),(vI q.1),(vI t.1),.nil,(vB g.1)] (stC_g rfl) wz (ah ?_)))
        obtain rfl:=af G
        exact aV Õ trivial rfl (aI rfl)
       ·refine aA rfl É (ax ?_)
        obtain rfl:=af G
        exact aV v trivial rfl (aI rfl)
      ·rintro Y _ Å Â C E
       refine aN _ C E (av (dX (bD O Û) wz rfl (aa (vI ((I+1:Nat):Int)) (ah ?_))))
       obtain rfl:=af R
       exact aU (I+1,Î,(Ð,K.2.L,K.2.f_at),Y) ⟨U,aQ O⟩ (ls_ _) rfl (aI rfl)
    ·rintro ⟨f,v⟩ X Å Â C E
     subst X
     refine aN _ C E (au (aj (eP (([(⟨#[99,105,116,121]⟩:ByteArray),(⟨#[109,97,108,108]⟩:ByteArray)]:List ByteArray).map eS) qW Gq rfl rfl rfl rfl rfl wz (bS yz rfl wz (aa (vI 0) (ah (iO (λî => ?_))))))))
     obtain ⟨ò,Í,c⟩:=bind_some c
     obtain ⟨Ü,Í⟩:=aW Í
     refine gH (σ:=(List ByteArray)×(List Int)×Int) (N:=Nm) (λp=>(λ(y:(List ByteArray)×(List Int)×Int) (B:Nm)=>([(0,(.ref (aG 0) 0 0)),(3,(gV b 13 a.1)),(6,(.ref A 0 0)),(11,(vL eS ([(⟨#[101,97]⟩:ByteArray),(⟨#[101,98]⟩:ByteArray),(⟨#[101,99]⟩:ByteArray),(⟨#[101,100]⟩:ByteArray)]:List ByteArray))),(12,(vI (([(⟨#[101,97]⟩:ByteArray),(⟨#[101,98]⟩:ByteArray),(⟨#[101,99]⟩:ByteArray),(⟨#[101,100]⟩:ByteArray)]:List ByteArray).length:Int))),(13,(vI (z:Int)))]:SL_)) p.1 p.2) (λp=>(λ(y:(List ByteArray)×(List Int)×Int) (B:Nm)=>([((aG 0),some (.cells 2 [(vL eI y.2.1),(vI y.2.2)])),(b,gB 13 Entry.enc a.1),(A,some (.cells 13 [(vS u),(vS h.1),(vI l.1),(vI e.1),(vI (w64 (e.1+w.1))),(vI m.1),(vI n.1),(gV v 1 f.1),(vI o.1),(vI q.1),(vI t.1),(gV B 1 y.1),(vB g.1)])),(v,gB 1 eI f.1),(B,gB 1 eS y.1)]:Hp)) p.1 p.2) (λ(J:Nat)=>(λp=>(λ(y:(List ByteArray)×(List Int)×Int) (B:Nm)=>([(0,(.ref (aG 0) 0 0)),(3,(gV b 13 a.1)),(6,(.ref A 0 0)),(11,(vL eS ([(⟨#[101,97]⟩:ByteArray),(⟨#[101,98]⟩:ByteArray),(⟨#[101,99]⟩:ByteArray),(⟨#[101,100]⟩:ByteArray)]:List ByteArray))),(12,(vI (([(⟨#[101,97]⟩:ByteArray),(⟨#[101,98]⟩:ByteArray),(⟨#[101,99]⟩:ByteArray),(⟨#[101,100]⟩:ByteArray)]:List ByteArray).length:Int))),(13,(vI (z:Int))),(68,(vL eS ([(⟨#[99,105,116,121]⟩:ByteArray),(⟨#[109,97,108,108]⟩:ByteArray)]:List ByteArray))),(69,(vI (([(⟨#[99,105,116,121]⟩:ByteArray),(⟨#[109,97,108,108]⟩:ByteArray)]:List ByteArray).length:Int))),(70,(vI (J:Int)))]:SL_)) p.1 p.2)) (λk x s=>iI k x s) ò ([(⟨#[99,105,116,121]⟩:ByteArray),(⟨#[109,97,108,108]⟩:ByteArray)]:List ByteArray) ((([]:List ByteArray),f.2.1,f.2.2),î) Í rfl (aI rfl) ?_ ?_
     ·rintro ⟨J,Ï,y,B⟩ ⟨W,P⟩
      dsimp only at W P
      cases Ï with
      | nil =>
       obtain rfl:=af W
       refine aj (aa (vB (decide ((J:Int)<(([(⟨#[99,105,116,121]⟩:ByteArray),(⟨#[109,97,108,108]⟩:ByteArray)]:List ByteArray).length:Int)))) (ah ?_))
       refine au (aA rfl (drop_nil P) (aS ?_))
       exact aV (y,B) rfl rfl (aI rfl)
      | cons Ç Ï =>
       obtain ⟨Ó,T,W⟩:=bind_some W
       refine aj (aa (vB (decide ((J:Int)<(([(⟨#[99,105,116,121]⟩:ByteArray),(⟨#[109,97,108,108]⟩:ByteArray)]:List ByteArray).length:Int)))) (ah ?_))
       refine au (aB rfl (bv P) (ax ?_))
       unfold iI at T
       refine au (aM (aj (dR qW rfl rfl (bJ P) rfl wz (bN sz9 ag9 rfl (vS Ç) rfl wz (aa (vS Ç) (ah (aj (aa (.ref (aG 0) 0 0) ?_))))))))
       obtain ⟨M,é,T⟩:=bind_some T
       refine fu 0 [0] il ft (mq é) rfl hb17 rfl (by kernel_rfl) (by kernel_rfl) (by kernel_rfl) (by kernel_rfl) (by kernel_rfl) (by kernel_rfl) (by kernel_rfl) (by decide) (by kernel_rfl) wz (vB M.1) (by kernel_rfl) ([((aG 0),some (.cells 2 [(vL eI M.2.L),(vI M.2.f_at)])),(b,gB 13 Entry.enc a.1),(A,some (.cells 13 [(vS u),(vS h.1),(vI l.1),(vI e.1),(vI (w64 (e.1+w.1))),(vI m.1),(vI n.1),(gV v 1 f.1),(vI o.1),(vI q.1),(vI t.1),(gV B 1 y.1),(vB g.1)])),(v,gB 1 eI f.1),(B,gB 1 eS y.1)]:Hp) (by kernel_rfl) (ah ?_)
       obtain ⟨Ñ,H,T⟩:=bind_some T
       refine lG (β:=Nm) (λ(Z:Nm)=>([(0,(.ref (aG 0) 0 0)),(3,(gV b 13 a.1)),(6,(.ref A 0 0)),(11,(vL eS ([(⟨#[101,97]⟩:ByteArray),(⟨#[101,98]⟩:ByteArray),(⟨#[101,99]⟩:ByteArray),(⟨#[101,100]⟩:ByteArray)]:List ByteArray))),(12,(vI (([(⟨#[101,97]⟩:ByteArray),(⟨#[101,98]⟩:ByteArray),(⟨#[101,99]⟩:ByteArray),(⟨#[101,100]⟩:ByteArray)]:List ByteArray).length:Int))),(13,(vI (z:Int))),(68,(vL eS ([(⟨#[99,105,116,121]⟩:ByteArray),(⟨#[109,97,108,108]⟩:ByteArray)]:List ByteArray))),(69,(vI (([(⟨#[99,105,116,121]⟩:ByteArray),(⟨#[109,97,108,108]⟩:ByteArray)]:List ByteArray).length:Int))),(70,(vI (J:Int)))]:SL_)) (λ(Z:Nm)=>([((aG 0),some (.cells 2 [(vL eI M.2.L),(vI M.2.f_at)])),(b,gB 13 Entry.enc a.1),(A,some (.cells 13 [(vS u),(vS h.1),(vI l.1),(vI e.1),(vI (w64 (e.1+w.1))),(vI m.1),(vI n.1),(gV v 1 f.1),(vI o.1),(vI q.1),(vI t.1),(gV Z 1 Ñ),(vB g.1)])),(v,gB 1 eI f.1),(Z,gB 1 eS Ñ)]:Hp)) (λ_=>True) ?_ ?_
       ·rcases ak H with⟨Ê,H⟩|⟨Ê,H⟩
        ·refine aB rfl Ê (av (aH mI rfl 11 rfl wz (ay 0 2 il ft tV xn rfl rfl (gV B 1 y.1) rfl wz (aa (vS Ç) (eP (([Ç]:List ByteArray).map eS) qW Gq rfl rfl rfl rfl rfl wz ?_)))))
         obtain ⟨Ú,ë,H⟩:=bind_some H
         refine kJ 0 il ft (i:=4) Hy Hy sz9 z9 rfl (by decide) by9 (by decide) (λ_=>rfl) rfl rfl rfl ë wz (λÖ=>aH mI rfl 11 rfl wz (dY 0 il ft 2 tV rfl rfl [(vS u),(vS h.1),(vI l.1),(vI e.1),(vI (w64 (e.1+w.1))),(vI m.1),(vI n.1),(gV v 1 f.1),(vI o.1),(vI q.1),(vI t.1),(gV Ö 1 Ú),(vB g.1)] (stC_g rfl) wz (ah ?_)))
         obtain rfl:=af H
         exact aV Ö trivial rfl (aI rfl)
        ·refine aA rfl Ê (ax ?_)
         obtain rfl:=af H
         exact aV B trivial rfl (aI rfl)
       ·rintro Z _ Å Â C E
        refine aN _ C E (av (dX (bD P Ü) wz rfl (aa (vI ((J+1:Nat):Int)) (ah ?_))))
        obtain rfl:=af T
        exact aU (J+1,Ï,(Ñ,M.2.L,M.2.f_at),Z) ⟨W,aQ P⟩ (ls_ _) rfl (aI rfl)
     ·rintro ⟨y,B⟩ X Å Â C E
      subst X
      refine aN _ C E (jb 3 rfl (jb 4 rfl (wH_coc2 3 4 2 [(vS u),(vS h.1),(vI l.1),(vI e.1),(vI (w64 (e.1+w.1))),(vI m.1),(vI n.1),(vL eI f.1),(vI o.1),(vI q.1),(vI t.1),(vL eS y.1),(vB g.1)] rfl rfl rfl (λS hS hS2=>nK (rfl) (nK (rfl) (nK (rfl) (nK (rfl) (nK (rfl) (nK (rfl) (nK (rfl) (nK (hS) (nK (rfl) (nK (rfl) (nK (rfl) (nK (hS2) (nK (rfl) (rfl)))))))))))))) (av (aa (gV b 13 a.1) (ay 0 2 il ft kH qx rfl rfl (.d (.agg (Entry.enc (⟨u,h.1,l.1,e.1,(w64 (e.1+w.1)),m.1,n.1,f.1,o.1,q.1,t.1,y.1,g.1⟩:Entry)))) rfl wz (eP (([(⟨u,h.1,l.1,e.1,(w64 (e.1+w.1)),m.1,n.1,f.1,o.1,q.1,t.1,y.1,g.1⟩:Entry)]:List Entry).map Entry.enc) yX ez26 rfl rfl rfl rfl rfl wz ?_)))))))
      obtain ⟨Ò,ì,c⟩:=bind_some c
      refine kJ 0 il ft (i:=1) JV JV kH z37 rfl (by decide) by37 (by decide) (λ_=>rfl) rfl rfl rfl ì wz (λØ=>aa (gV Ø 13 Ò) (ah (av (dX (bD F Ô) wz rfl (aa (vI ((z+1:Nat):Int)) (ah ?_))))))
      obtain rfl:=af c
      exact aU (z+1,Ä,(Ò,y.2.1,y.2.2),Ø) ⟨Q,aQ F⟩ (ls_ _) rfl (aI rfl)
 ·rintro ⟨a,b⟩ X Å Â C E
  subst X
  refine aN _ C E (aj (aa (gV b 13 a.1) (aa (gV b 13 a.1) (ah (jb 1 rfl (fC 2 1 rfl rfl (fC 3 1 rfl rfl (fC 88 1 rfl rfl ?_))))))))
  obtain rfl:=af Ã
  exact aC (Ar (.inr rfl) [(vL Entry.enc a.1)] _ [0] [aG 0] ⟨rfl,trivial⟩ (.cons (kK rfl rfl) (.nil)) (by kernel_rfl) ⟨(by kernel_rfl),trivial⟩ (by decide) (by kernel_rfl))
theorem oF {f:Stream} {r:Player×Stream} (a:gu f=some r) :
  FnM Tryz.prog 5 [(.ref (aG 0) 0 0)] [(.cells 2 [(vL eI f.L),(vI f.f_at)])] (.d (.agg (Player.enc r.1))) [some (.cells 2 [(vL eI r.2.L),(vI r.2.f_at)])]:=by
 refine FnM.of_wH ⟨Tryz.prog,14,[],[]⟩ rfl Tryz.func5 rfl rfl (lb_ rfl) (by kernel_rfl) ?_
 unfold gu at a
 refine aj (bZ 0 (.inl rfl) z30 rfl wz (λg=>ah (aj (aa (.ref (aG 0) 0 0) (eP (([0,0,60,(-90),1440]:List Int).map eI) ko yQ rfl rfl rfl rfl rfl wz ?_)))))
 obtain ⟨b,h,a⟩:=bind_some a
 refine fu 0 [0] il ft (gm h) rfl Kw rfl (by kernel_rfl) (by kernel_rfl) (by kernel_rfl) (by kernel_rfl) (by kernel_rfl) (by kernel_rfl) (by kernel_rfl) (by decide) (by kernel_rfl) wz (vI b.1) (by kernel_rfl) ([((aG 0),some (.cells 2 [(vL eI b.2.L),(vI b.2.f_at)])),(g,some (.cells 4 [(vS (⟨#[]⟩:ByteArray)),(vS (⟨#[]⟩:ByteArray)),(vI 0),.nil]))]:Hp) (by kernel_rfl) (eP (([(⟨#[99,105,116,121]⟩:ByteArray)]:List ByteArray).map eS) qW Gq rfl rfl rfl rfl rfl wz (eP (([(⟨#[99,105,116,121]⟩:ByteArray),(⟨#[109,97,108,108]⟩:ByteArray)]:List ByteArray).map eS) qW Gq rfl rfl rfl rfl rfl wz (eP (([([]:List ByteArray),([(⟨#[99,105,116,121]⟩:ByteArray)]:List ByteArray),([(⟨#[99,105,116,121]⟩:ByteArray),(⟨#[109,97,108,108]⟩:ByteArray)]:List ByteArray)]:List (List ByteArray)).map (eL eS)) es59 ez59 rfl rfl rfl rfl rfl wz (aa (.ref (aG 0) 0 0) ?_))))
 obtain ⟨e,i,a⟩:=bind_some a
 refine fu 0 [0] il ft (jY i) rfl QI rfl (by kernel_rfl) (by kernel_rfl) (by kernel_rfl) (by kernel_rfl) (by kernel_rfl) (by kernel_rfl) (by kernel_rfl) (by decide) (by kernel_rfl) wz (vI e.1) (by kernel_rfl) ([((aG 0),some (.cells 2 [(vL eI e.2.L),(vI e.2.f_at)])),(g,some (.cells 4 [(vS (⟨#[]⟩:ByteArray)),(vS (⟨#[]⟩:ByteArray)),(vI 0),.nil]))]:Hp) (by kernel_rfl) ?_
 obtain ⟨c,j,a⟩:=bind_some a
 refine dR es59 rfl rfl j rfl wz (bN tV xn rfl (vL eS c) rfl wz (aK (.d (.agg (Player.enc (⟨(⟨#[112]⟩:ByteArray),(⟨#[115,97]⟩:ByteArray),b.1,c⟩:Player)))) wz (by kernel_rfl) (dY 0 il ft 1 yM rfl rfl [(vS (⟨#[112]⟩:ByteArray)),(vS (⟨#[115,97]⟩:ByteArray)),(vI b.1),(vL eS c)] rfl wz (ah ?_))))
 obtain rfl:=af a
 exact aC (Ar (.inr rfl) [(.d (.agg (Player.enc (⟨(⟨#[112]⟩:ByteArray),(⟨#[115,97]⟩:ByteArray),b.1,c⟩:Player))))] _ [0] [aG 0] ⟨⟨1,_,_,_,_,_,_,_,rfl,rfl,yM,Bg,rfl⟩,trivial⟩ (.cons (kK rfl rfl) (.nil)) (by kernel_rfl) ⟨(by kernel_rfl),trivial⟩ (by decide) (by kernel_rfl))
theorem fK {e:ByteArray} {r:Bool} (g:fG e=some r) :
  FnM Tryz.prog 75 [(vS e)] [] (vB r) []:=by
 refine FnM.of_wH ⟨Tryz.prog,48,[],[]⟩ rfl Tryz.func75 rfl rfl (lb_ rfl) (by kernel_rfl) ?_
 unfold fG at g
 refine aj (aa (vB false) (ah (au (aj (aa (vI 0) (ah ?_))))))
 obtain ⟨L,E,g⟩:=bind_some g
 obtain ⟨K,E⟩:=dJ E
 refine gq (λ(c:Int)=>[(0,(vS e))]) (λ(c:Int)=>[]) (λ(l:Nat)=>(λ(c:Int)=>[(0,(vS e)),(3,(vI c))])) (λs=>j6 e s) L K 0 E rfl (aI rfl) ?_ ?_
 ·rintro ⟨l,c⟩ h
  dsimp only at h
  cases l with
  | zero=>cases h
  | succ l =>
   obtain ⟨N,f,h⟩:=bind_some h
   unfold j6 at f
   refine au (aj (aa (vI c) (aa (vS e) (o5 un9 rfl wz (aa (vB (decide (c<(e.size:Int)))) (ah ?_))))))
   rcases ak f with⟨m,f⟩|⟨m,f⟩
   ·refine aB rfl m (ax (au (aM (aj (aa (vS e) (aa (vI c) ?_))))))
    obtain ⟨a,J,f⟩:=bind_some f
    refine lK un9 rfl rfl J wz (aa (.d (.int .u8 (a.toNat:Int))) (ah (au ?_)))
    obtain ⟨M,b,f⟩:=bind_some f
    refine aP [(0,(vS e)),(3,(vI c)),(40,(vB M))] [] ?_ ?_
    ·refine av (aa (.d (.int .u8 (a.toNat:Int))) (aa (vB (decide ((a.toNat:Int)>=97))) ?_))
     rcases ak b with⟨n,b⟩|⟨n,b⟩
     ·refine aD rfl n wz (aK (.d (.int .u8 (a.toNat:Int))) wa rfl (aK (vB (decide ((a.toNat:Int)<=122))) wa rfl (aa (vB (decide ((a.toNat:Int)<=122))) ?_)))
      rcases ak b with⟨o,b⟩|⟨o,b⟩
      ·refine aD rfl o wz (ae (ae (ae (dw (wn rfl rfl) (dw (wn rfl rfl) (dw (wn rfl rfl) (dw (wn rfl rfl) (dw (wn rfl rfl) (dw (wn rfl rfl) (dw (wn rfl rfl) (dw (wn rfl rfl) (dw (wn rfl rfl) (dw (wn rfl rfl) (dw (wn rfl rfl) (dw (wn rfl rfl) (dw (wn rfl rfl) (dw (wn rfl rfl) (ae (aa (vB true) (aa (vB false) (ah ?_)))))))))))))))))))))
       obtain rfl:=af b
       exact cu
      ·refine aD rfl o wz (aK (vI c) wa rfl (aK (vB (decide (c>0))) wa rfl ?_))
       rcases ak b with⟨p,b⟩|⟨p,b⟩
       ·refine aD rfl p wa (aK (.d (.int .u8 (a.toNat:Int))) wa rfl (aK (vB (decide ((a.toNat:Int)>=48))) wa rfl ?_))
        rcases ak b with⟨q,b⟩|⟨q,b⟩
        ·refine aD rfl q wa (aK (.d (.int .u8 (a.toNat:Int))) wa rfl (aK (vB (decide ((a.toNat:Int)<=57))) wa rfl (aK (vB (decide ((a.toNat:Int)<=57))) wa rfl ?_)))
         rcases ak b with⟨t,b⟩|⟨t,b⟩
         ·refine aD rfl t wa (ae (ae (aK (vB true) wa rfl (aK (vB true) wa rfl (ae (ae (aK (vB true) wa rfl (aK (vB true) wa rfl (aa (vB true) (aa (vB false) (ah ?_)))))))))))
          obtain rfl:=af b
          exact cu
         ·refine aD rfl t wa (aK (.d (.int .u8 (a.toNat:Int))) wa rfl (aK (vB ((a.toNat:Int)==45)) wa rfl (aK (vB ((a.toNat:Int)==45)) wa rfl ?_)))
          rcases ak b with⟨u,b⟩|⟨u,b⟩
          ·refine aD rfl u wa (ae (ae (aK (vB true) wa rfl (aK (vB true) wa rfl (aa (vB true) (aa (vB false) (ah ?_)))))))
           obtain rfl:=af b
           exact cu
          ·refine aD rfl u wa (aK (.d (.int .u8 (a.toNat:Int))) wa rfl (aK (vB ((a.toNat:Int)==95)) wa rfl (aK (vB ((a.toNat:Int)==95)) wa rfl (aK (vB ((a.toNat:Int)==95)) wa rfl (aa (vB ((a.toNat:Int)==95)) (aa (vB (!((a.toNat:Int)==95))) (ah ?_)))))))
           obtain rfl:=af b
           exact cu
        ·refine aD rfl q wa (ae (ae (aK (vB false) wa rfl (aK (vB false) wa rfl (aK (.d (.int .u8 (a.toNat:Int))) wa rfl (aK (vB ((a.toNat:Int)==45)) wa rfl (aK (vB ((a.toNat:Int)==45)) wa rfl ?_)))))))
         rcases ak b with⟨v,b⟩|⟨v,b⟩
         ·refine aD rfl v wa (ae (ae (aK (vB true) wa rfl (aK (vB true) wa rfl (aa (vB true) (aa (vB false) (ah ?_)))))))
          obtain rfl:=af b
          exact cu
         ·refine aD rfl v wa (aK (.d (.int .u8 (a.toNat:Int))) wa rfl (aK (vB ((a.toNat:Int)==95)) wa rfl (aK (vB ((a.toNat:Int)==95)) wa rfl (aK (vB ((a.toNat:Int)==95)) wa rfl (aa (vB ((a.toNat:Int)==95)) (aa (vB (!((a.toNat:Int)==95))) (ah ?_)))))))
          obtain rfl:=af b
          exact cu
       ·refine aD rfl p wa (ae (ae (ae (dw (wn rfl rfl) (dw (wn rfl rfl) (ae (ae (dw (wn rfl rfl) (dw (wn rfl rfl) (ae (ae (dw (wn rfl rfl) (dw (wn rfl rfl) (ae (aK (vB false) wa rfl (aa (vB false) (aa (vB true) (ah ?_))))))))))))))))))
        obtain rfl:=af b
        exact cu
     ·refine aD rfl n wz (ae (ae (aa (vB false) (aa (vB false) (aK (vI c) wa rfl (aK (vB (decide (c>0))) wa rfl ?_))))))
      rcases ak b with⟨w,b⟩|⟨w,b⟩
      ·refine aD rfl w wa (aK (.d (.int .u8 (a.toNat:Int))) wa rfl (aK (vB (decide ((a.toNat:Int)>=48))) wa rfl ?_))
       rcases ak b with⟨x,b⟩|⟨x,b⟩
       ·refine aD rfl x wa (aK (.d (.int .u8 (a.toNat:Int))) wa rfl (aK (vB (decide ((a.toNat:Int)<=57))) wa rfl (aK (vB (decide ((a.toNat:Int)<=57))) wa rfl ?_)))
        rcases ak b with⟨y,b⟩|⟨y,b⟩
        ·refine aD rfl y wa (ae (ae (aK (vB true) wa rfl (aK (vB true) wa rfl (ae (ae (aK (vB true) wa rfl (aK (vB true) wa rfl (aa (vB true) (aa (vB false) (ah ?_)))))))))))
         obtain rfl:=af b
         exact cu
        ·refine aD rfl y wa (aK (.d (.int .u8 (a.toNat:Int))) wa rfl (aK (vB ((a.toNat:Int)==45)) wa rfl (aK (vB ((a.toNat:Int)==45)) wa rfl ?_)))
         rcases ak b with⟨z,b⟩|⟨z,b⟩
         ·refine aD rfl z wa (ae (ae (aK (vB true) wa rfl (aK (vB true) wa rfl (aa (vB true) (aa (vB false) (ah ?_)))))))
          obtain rfl:=af b
          exact cu
         ·refine aD rfl z wa (aK (.d (.int .u8 (a.toNat:Int))) wa rfl (aK (vB ((a.toNat:Int)==95)) wa rfl (aK (vB ((a.toNat:Int)==95)) wa rfl (aK (vB ((a.toNat:Int)==95)) wa rfl (aa (vB ((a.toNat:Int)==95)) (aa (vB (!((a.toNat:Int)==95))) (ah ?_)))))))
          obtain rfl:=af b
          exact cu
       ·refine aD rfl x wa (ae (ae (aK (vB false) wa rfl (aK (vB false) wa rfl (aK (.d (.int .u8 (a.toNat:Int))) wa rfl (aK (vB ((a.toNat:Int)==45)) wa rfl (aK (vB ((a.toNat:Int)==45)) wa rfl ?_)))))))
        rcases ak b with⟨A,b⟩|⟨A,b⟩
        ·refine aD rfl A wa (ae (ae (aK (vB true) wa rfl (aK (vB true) wa rfl (aa (vB true) (aa (vB false) (ah ?_)))))))
         obtain rfl:=af b
         exact cu
        ·refine aD rfl A wa (aK (.d (.int .u8 (a.toNat:Int))) wa rfl (aK (vB ((a.toNat:Int)==95)) wa rfl (aK (vB ((a.toNat:Int)==95)) wa rfl (aK (vB ((a.toNat:Int)==95)) wa rfl (aa (vB ((a.toNat:Int)==95)) (aa (vB (!((a.toNat:Int)==95))) (ah ?_)))))))
         obtain rfl:=af b
         exact cu
      ·refine aD rfl w wa (ae (ae (ae (dw (wn rfl rfl) (dw (wn rfl rfl) (ae (ae (dw (wn rfl rfl) (dw (wn rfl rfl) (ae (ae (dw (wn rfl rfl) (dw (wn rfl rfl) (ae (aK (vB false) wa rfl (aa (vB false) (aa (vB true) (ah ?_))))))))))))))))))
       obtain rfl:=af b
       exact cu
    ·rintro ⟨⟩ _ G F j k
     refine aN _ j k ?_
     rcases ak f with⟨B,f⟩|⟨B,f⟩
     ·refine aB rfl B (aj (aa (vB false) (ah ?_)))
      obtain rfl:=af f
      obtain rfl:=af h
      obtain rfl:=af g
      exact aC (aL [(vB false)] ⟨rfl,trivial⟩)
     ·refine aA rfl B (ax (av (aa (vI c) (aa (vI (w64 (c+1))) (aa (vI (w64 (c+1))) (ah ?_))))))
      obtain rfl:=af f
      exact aU (l,(w64 (c+1))) h (ls_ _) rfl (aI rfl)
   ·refine aA rfl m (aS ?_)
    obtain rfl:=af f
    obtain rfl:=af h
    exact aV (c) rfl rfl (aI rfl)
 ·rintro c I G F j k
  subst I
  refine aN _ j k (au ?_)
  obtain ⟨H,i,g⟩:=bind_some g
  refine aP [(2,(vB H))] [] ?_ ?_
  ·refine av (aa (vS e) (aa (vB (sNe e (⟨#[]⟩:ByteArray))) ?_))
   rcases ak i with⟨C,i⟩|⟨C,i⟩
   ·refine aD rfl C wz (aK (vS e) wa rfl (o5 un9 rfl wa (aK (vB (decide ((e.size:Int)<=40))) wa rfl (aa (vB (decide ((e.size:Int)<=40))) (aa (vB (decide ((e.size:Int)<=40))) (ah ?_))))))
    obtain rfl:=af i
    exact cu
   ·refine aD rfl C wz (ae (ae (ae (aa (vB false) (aa (vB false) (ah ?_))))))
    obtain rfl:=af i
    exact cu
  ·rintro ⟨⟩ _ G F j k
   refine aN _ j k ?_
   obtain rfl:=af g
   exact aC (aL [(vB H)] ⟨rfl,trivial⟩)
theorem bH {a:Int} {e:Int} {b:Int} {r:Bool} (d:aR a e b=some r) :
  FnM Tryz.prog 67 [(vI a),(vI e),(vI b)] [] (vB r) []:=by
 refine FnM.of_wH ⟨Tryz.prog,15,[],[]⟩ rfl Tryz.func67 rfl rfl (lb_ rfl) (by kernel_rfl) ?_
 unfold aR at d
 refine aj (aa (vB false) (ah (au ?_)))
 obtain ⟨g,c,d⟩:=bind_some d
 refine aP [(6,(vB g))] [] ?_ ?_
 ·refine av (aa (vI a) (aa (vI e) (aa (vB (decide (a<e))) ?_)))
  rcases ak c with⟨f,c⟩|⟨f,c⟩
  ·refine aD rfl f wz (ae (ae (ae (aa (vB true) (aa (vB true) (ah ?_))))))
   obtain rfl:=af c
   exact cu
  ·refine aD rfl f wz (aK (vI a) wa rfl (aK (vI b) wa rfl (aK (vB (decide (a>b))) wa rfl (aa (vB (decide (a>b))) (aa (vB (decide (a>b))) (ah ?_))))))
   obtain rfl:=af c
   exact cu
 ·rintro ⟨⟩ _ k j h i
  refine aN _ h i ?_
  obtain rfl:=af d
  exact aC (aL [(vB g)] ⟨rfl,trivial⟩)
theorem Ju {a:Int} {r:Bool} (c:wV a=some r) :
  FnM Tryz.prog 109 [(vI a)] [] (vB r) []:=by
 refine FnM.of_wH ⟨Tryz.prog,9,[],[]⟩ rfl Tryz.func109 rfl rfl (lb_ rfl) (by kernel_rfl) ?_
 unfold wV at c
 refine aj (aa (vB false) (ah (au ?_)))
 obtain ⟨e,b,c⟩:=bind_some c
 refine aP [(2,(vB e))] [] ?_ ?_
 ·refine av (aa (vI a) (aa (vB (decide (a>=0))) ?_))
  rcases ak b with⟨d,b⟩|⟨d,b⟩
  ·refine aD rfl d wz (aK (vI a) wa rfl (aK (vB (decide (a<=4000))) wa rfl (aa (vB (decide (a<=4000))) (aa (vB (decide (a<=4000))) (ah ?_)))))
   obtain rfl:=af b
   exact cu
  ·refine aD rfl d wz (ae (ae (aa (vB false) (aa (vB false) (ah ?_)))))
   obtain rfl:=af b
   exact cu
 ·rintro ⟨⟩ _ i h f g
  refine aN _ f g ?_
  obtain rfl:=af c
  exact aC (aL [(vB e)] ⟨rfl,trivial⟩)
theorem wQ {a:(List Int)} {r:Int} (d:gP a=some r) :
  FnM Tryz.prog 76 [(vL eI a)] [] (vI r) []:=by
 refine FnM.of_wH ⟨Tryz.prog,30,[],[]⟩ rfl Tryz.func76 rfl rfl (lb_ rfl) (by kernel_rfl) ?_
 unfold gP at d
 refine aj (aa (vI 0) (ah (au (aj (aa (vL eI a) (bS sN rfl wz (aa (vB (decide ((a.length:Int)>100))) (ah ?_))))))))
 rcases ak d with⟨m,d⟩|⟨m,d⟩
 ·refine aB rfl m (aj (aa (vI 2) (ah ?_)))
  obtain rfl:=af d
  exact aC (aL [(vI 2)] ⟨rfl,trivial⟩)
 ·refine aA rfl m (ax (au (aj (aa (vL eI a) (bS sN rfl wz (aa (vI 0) (ah ?_)))))))
  obtain ⟨B,o,d⟩:=bind_some d
  obtain ⟨w,o⟩:=aW o
  refine cz (λ(i:Unit)=>[]) (λ(i:Unit)=>[]) (λ(c:Nat)=>(λ(i:Unit)=>[(0,(vL eI a)),(8,(vL eI a)),(9,(vI (a.length:Int))),(10,(vI (c:Int)))])) (λk x s=>ji a k x s) B a () o rfl (aI rfl) ?_ ?_
  ·rintro ⟨c,t,i⟩ ⟨e,g⟩
   dsimp only at e g
   cases t with
   | nil =>
    obtain rfl:=af e
    refine aj (aa (vB (decide ((c:Int)<(a.length:Int)))) (ah ?_))
    refine au (aA rfl (drop_nil g) (aS ?_))
    exact aV (i) rfl rfl (aI rfl)
   | cons h t =>
    obtain ⟨G,b,e⟩:=bind_some e
    refine aj (aa (vB (decide ((c:Int)<(a.length:Int)))) (ah ?_))
    refine au (aB rfl (bv g) (ax ?_))
    unfold ji at b
    refine au (aM (aj (aa (vI (c:Int)) (dR ko rfl rfl (bJ g) rfl wz (bN sz3 ag3 rfl (vI h) rfl wz (aa (vI (c:Int)) (aa (vI h) (ah (au (aj (aa (vI h) ?_)))))))))))
    obtain ⟨C,z,b⟩:=bind_some b
    refine aF (Ju z) rfl hb109 rfl rfl rfl rfl wz (aa (vB (!C)) (ah ?_))
    rcases ak b with⟨j,b⟩|⟨j,b⟩
    ·refine aB rfl j (aj (aa (vI 1) (ah ?_)))
     obtain rfl:=af b
     obtain rfl:=af e
     obtain rfl:=af d
     exact aC (aL [(vI 1)] ⟨rfl,trivial⟩)
    ·refine aA rfl j (ax (au ?_))
     obtain ⟨F,f,b⟩:=bind_some b
     refine aP [(0,(vL eI a)),(8,(vL eI a)),(9,(vI (a.length:Int))),(10,(vI (c:Int))),(28,(vB F))] [] ?_ ?_
     ·refine av (aa (vI (c:Int)) (aa (vB (decide ((c:Int)>0))) ?_))
      rcases ak f with⟨l,f⟩|⟨l,f⟩
      ·refine aD rfl l wz (aK (vI h) wa rfl (aK (vL eI a) wa rfl (aK (vI (c:Int)) wa rfl (aK (vI (w64 ((c:Int)-1))) wa rfl ?_))))
       obtain ⟨u,A,f⟩:=bind_some f
       refine dR ko rfl rfl A rfl wa (bN sz3 ag3 rfl (vI u) rfl wa (aK (vB (decide (h<=u))) wa rfl (aa (vB (decide (h<=u))) (ah ?_))))
       obtain rfl:=af f
       exact cu
      ·refine aD rfl l wz (ae (ae (ae (ae (ae (ae (ae (aa (vB false) (ah ?_)))))))))
       obtain rfl:=af f
       exact cu
     ·rintro ⟨⟩ _ E v p q
      refine aN _ p q ?_
      rcases ak b with⟨n,b⟩|⟨n,b⟩
      ·refine aB rfl n (aj (aa (vI 7) (ah ?_)))
       obtain rfl:=af b
       obtain rfl:=af e
       obtain rfl:=af d
       exact aC (aL [(vI 7)] ⟨rfl,trivial⟩)
      ·refine aA rfl n (ax (av (dX (bD g w) wz rfl (aa (vI ((c+1:Nat):Int)) (ah ?_)))))
       obtain rfl:=af b
       exact aU (c+1,t,()) ⟨e,aQ g⟩ (ls_ _) rfl (aI rfl)
  ·rintro i y E v p q
   subst y
   refine aN _ p q (aj (aa (vI 0) (ah ?_)))
   obtain rfl:=af d
   exact aC (aL [(vI 0)] ⟨rfl,trivial⟩)
theorem uV {b:(List ByteArray)} {r:Int} (g:jq b=some r) :
  FnM Tryz.prog 110 [(vL eS b)] [] (vI r) []:=by
 refine FnM.of_wH ⟨Tryz.prog,27,[],[]⟩ rfl Tryz.func110 rfl rfl (lb_ rfl) (by kernel_rfl) ?_
 unfold jq at g
 refine aj (aa (vI 0) (ah (au (aj (aa (vL eS b) (bS yz rfl wz (aa (vI 0) (ah ?_))))))))
 obtain ⟨A,n,g⟩:=bind_some g
 obtain ⟨v,n⟩:=aW n
 refine cz (λ(i:Unit)=>[]) (λ(i:Unit)=>[]) (λ(c:Nat)=>(λ(i:Unit)=>[(0,(vL eS b)),(5,(vL eS b)),(6,(vI (b.length:Int))),(7,(vI (c:Int)))])) (λk x s=>iP b k x s) A b () n rfl (aI rfl) ?_ ?_
 ·rintro ⟨c,q,i⟩ ⟨d,f⟩
  dsimp only at d f
  cases q with
  | nil =>
   obtain rfl:=af d
   refine aj (aa (vB (decide ((c:Int)<(b.length:Int)))) (ah ?_))
   refine au (aA rfl (drop_nil f) (aS ?_))
   exact aV (i) rfl rfl (aI rfl)
  | cons h q =>
   obtain ⟨F,a,d⟩:=bind_some d
   refine aj (aa (vB (decide ((c:Int)<(b.length:Int)))) (ah ?_))
   refine au (aB rfl (bv f) (ax ?_))
   unfold iP at a
   refine au (aM (aj (aa (vI (c:Int)) (dR qW rfl rfl (bJ f) rfl wz (bN sz9 ag9 rfl (vS h) rfl wz (aa (vI (c:Int)) (aa (vS h) (ah (au (aj (aa (vS h) ?_)))))))))))
   obtain ⟨B,y,a⟩:=bind_some a
   refine aF (fK y) rfl Dk rfl rfl rfl rfl wz (aa (vB (!B)) (ah ?_))
   rcases ak a with⟨j,a⟩|⟨j,a⟩
   ·refine aB rfl j (aj (aa (vI 5) (ah ?_)))
    obtain rfl:=af a
    obtain rfl:=af d
    obtain rfl:=af g
    exact aC (aL [(vI 5)] ⟨rfl,trivial⟩)
   ·refine aA rfl j (ax (au ?_))
    obtain ⟨E,e,a⟩:=bind_some a
    refine aP [(0,(vL eS b)),(5,(vL eS b)),(6,(vI (b.length:Int))),(7,(vI (c:Int))),(25,(vB E))] [] ?_ ?_
    ·refine av (aa (vI (c:Int)) (aa (vB (decide ((c:Int)>0))) ?_))
     rcases ak e with⟨l,e⟩|⟨l,e⟩
     ·refine aD rfl l wz (aK (vS h) wa rfl (aK (vL eS b) wa rfl (aK (vI (c:Int)) wa rfl (aK (vI (w64 ((c:Int)-1))) wa rfl ?_))))
      obtain ⟨t,z,e⟩:=bind_some e
      refine dR qW rfl rfl z rfl wa (bN sz9 ag9 rfl (vS t) rfl wa (aK (vB (sLe h t)) wa rfl (aa (vB (sLe h t)) (ah ?_))))
      obtain rfl:=af e
      exact cu
     ·refine aD rfl l wz (ae (ae (ae (ae (ae (ae (ae (aa (vB false) (ah ?_)))))))))
      obtain rfl:=af e
      exact cu
    ·rintro ⟨⟩ _ C u o p
     refine aN _ o p ?_
     rcases ak a with⟨m,a⟩|⟨m,a⟩
     ·refine aB rfl m (aj (aa (vI 7) (ah ?_)))
      obtain rfl:=af a
      obtain rfl:=af d
      obtain rfl:=af g
      exact aC (aL [(vI 7)] ⟨rfl,trivial⟩)
     ·refine aA rfl m (ax (av (dX (bD f v) wz rfl (aa (vI ((c+1:Nat):Int)) (ah ?_)))))
      obtain rfl:=af a
      exact aU (c+1,q,()) ⟨d,aQ f⟩ (ls_ _) rfl (aI rfl)
 ·rintro i w C u o p
  subst w
  refine aN _ o p (aj (aa (vI 0) (ah ?_)))
  obtain rfl:=af g
  exact aC (aL [(vI 0)] ⟨rfl,trivial⟩)
theorem qz {b:(List ByteArray)} {r:Int} (a:fF b=some r) :
  FnM Tryz.prog 77 [(vL eS b)] [] (vI r) []:=by
 refine FnM.of_wH ⟨Tryz.prog,8,[],[]⟩ rfl Tryz.func77 rfl rfl (lb_ rfl) (by kernel_rfl) ?_
 unfold fF at a
 refine aj (aa (vI 0) (ah (au (aj (aa (vL eS b) (bS yz rfl wz (aa (vB (decide ((b.length:Int)>20))) (ah ?_))))))))
 rcases ak a with⟨c,a⟩|⟨c,a⟩
 ·refine aB rfl c (aj (aa (vI 2) (ah ?_)))
  obtain rfl:=af a
  exact aC (aL [(vI 2)] ⟨rfl,trivial⟩)
 ·refine aA rfl c (ax (aj (aa (vL eS b) ?_)))
  obtain ⟨d,e,a⟩:=bind_some a
  refine aF (uV e) rfl hb110 rfl rfl rfl rfl wz (aa (vI d) (ah ?_))
  obtain rfl:=af a
  exact aC (aL [(vI d)] ⟨rfl,trivial⟩)
theorem xR {c:Entry} {r:Int} (a:fQ c=some r) :
  FnM Tryz.prog 41 [(.d (.agg (Entry.enc c)))] [] (vI r) []:=by
 refine FnM.of_wH ⟨Tryz.prog,61,[],[]⟩ rfl Tryz.func41 rfl rfl (lb_ rfl) (by kernel_rfl) ?_
 unfold fQ at a
 refine aj (dQ 0 (.inl rfl) (Entry.v c) rfl rfl wz (λg=>aa (vI 0) (ah (au (au ?_)))))
 obtain ⟨X,f,a⟩:=bind_some a
 refine aP [(1,(.ref g 0 0)),(13,(vB X))] [(g,some (.cells 13 (Entry.v c)))] ?_ ?_
 ·refine av (aH sU rfl 0 rfl wz (ay 0 0 il ft sz9 ag9 rfl rfl (vS c.Key) rfl wz ?_))
  obtain ⟨T,L,f⟩:=bind_some f
  refine aF (fK L) rfl Dk rfl rfl rfl rfl wz (aa (vB (!T)) ?_)
  rcases ak f with⟨w,f⟩|⟨w,f⟩
  ·refine aD rfl w wz (ae (ae (ae (ae (aa (vB true) (ah ?_))))))
   obtain rfl:=af f
   exact cu
  ·refine aD rfl w wz (aH J8 rfl 1 rfl wa (ay 0 0 il ft sz9 ag9 rfl rfl (vS c.Item) rfl wa ?_))
   obtain ⟨z,M,f⟩:=bind_some f
   refine aF (fK M) rfl Dk rfl rfl rfl rfl wa (aK (vB (!z)) wa rfl (aa (vB (!z)) (ah ?_)))
   obtain rfl:=af f
   exact cu
 ·rintro ⟨⟩ _ A x i j
  refine aN _ i j ?_
  rcases ak a with⟨k,a⟩|⟨k,a⟩
  ·refine aB rfl k (aj (aa (vI 5) (ah ?_)))
   obtain rfl:=af a
   exact aC (aL [(vI 5)] ⟨rfl,trivial⟩)
  ·refine aA rfl k (ax (au (au ?_)))
   obtain ⟨U,b,a⟩:=bind_some a
   refine aP [(1,(.ref g 0 0)),(38,(vB U))] [(g,some (.cells 13 (Entry.v c)))] ?_ ?_
   ·refine av (aH zL rfl 2 rfl wz (ay 0 0 il ft sz3 ag3 rfl rfl (vI c.Version) rfl wz ?_))
    obtain ⟨Y,B,b⟩:=bind_some b
    refine aF (bH B) rfl tT rfl rfl rfl rfl wz ?_
    rcases ak b with⟨l,b⟩|⟨l,b⟩
    ·refine aD rfl l wz (ae (ae (ae (ae (ae (aa (vB true) (aa (vB true) (ae (ae (ae (aa (vB true) (aa (vB true) (ae (ae (ae (aa (vB true) (aa (vB true) (ae (ae (ae (aa (vB true) (ah ?_))))))))))))))))))))))
     obtain rfl:=af b
     exact cu
    ·refine aD rfl l wz (aH yf rfl 3 rfl wa (ay 0 0 il ft sz3 ag3 rfl rfl (vI c.First) rfl wa (aH xM rfl 4 rfl wa (ay 0 0 il ft sz3 ag3 rfl rfl (vI c.Last) rfl wa ?_))))
     obtain ⟨N,C,b⟩:=bind_some b
     refine aF (bH C) rfl tT rfl rfl rfl rfl wa (aa (vB N) ?_)
     rcases ak b with⟨m,b⟩|⟨m,b⟩
     ·refine aD rfl m wz (ae (ae (ae (aa (vB true) (aa (vB true) (ae (ae (ae (aa (vB true) (aa (vB true) (ae (ae (ae (aa (vB true) (ah ?_)))))))))))))))
      obtain rfl:=af b
      exact cu
     ·refine aD rfl m wz (aH xM rfl 4 rfl wa (ay 0 0 il ft sz3 ag3 rfl rfl (vI c.Last) rfl wa (aK (vB (decide (c.Last>4000))) wa rfl (aa (vB (decide (c.Last>4000))) ?_))))
      rcases ak b with⟨n,b⟩|⟨n,b⟩
      ·refine aD rfl n wz (ae (ae (ae (aa (vB true) (aa (vB true) (ae (ae (ae (aa (vB true) (ah ?_))))))))))
       obtain rfl:=af b
       exact cu
      ·refine aD rfl n wz (aH G9 rfl 5 rfl wa (ay 0 0 il ft sz3 ag3 rfl rfl (vI c.Every) rfl wa ?_))
       obtain ⟨O,E,b⟩:=bind_some b
       refine aF (bH E) rfl tT rfl rfl rfl rfl wa (aa (vB O) ?_)
       rcases ak b with⟨o,b⟩|⟨o,b⟩
       ·refine aD rfl o wz (ae (ae (ae (aa (vB true) (ah ?_)))))
        obtain rfl:=af b
        exact cu
       ·refine aD rfl o wz (aH Gs rfl 6 rfl wa (ay 0 0 il ft sz3 ag3 rfl rfl (vI c.Days) rfl wa ?_))
        obtain ⟨P,F,b⟩:=bind_some b
        refine aF (bH F) rfl tT rfl rfl rfl rfl wa (aa (vB P) (ah ?_))
        obtain rfl:=af b
        exact cu
   ·rintro ⟨⟩ _ A x i j
    refine aN _ i j ?_
    rcases ak a with⟨p,a⟩|⟨p,a⟩
    ·refine aB rfl p (aj (aa (vI 1) (ah ?_)))
     obtain rfl:=af a
     exact aC (aL [(vI 1)] ⟨rfl,trivial⟩)
    ·refine aA rfl p (ax (au (aj (aH pU rfl 7 rfl wz (ay 0 0 il ft sF xE rfl rfl (vL eI c.Except) rfl wz ?_)))))
     obtain ⟨h,G,a⟩:=bind_some a
     refine aF (wQ G) rfl hb76 rfl rfl rfl rfl wz (aa (vI h) (ah (aj (aa (vI h) (aa (vB (h != 0)) (ah ?_))))))
     rcases ak a with⟨q,a⟩|⟨q,a⟩
     ·refine aB rfl q (aj (aa (vI h) (aa (vI h) (ah ?_))))
      obtain rfl:=af a
      exact aC (aL [(vI h)] ⟨rfl,trivial⟩)
     ·refine aA rfl q (ax (au (au ?_)))
      obtain ⟨W,e,a⟩:=bind_some a
      refine aP [(1,(.ref g 0 0)),(57,(vB W))] [(g,some (.cells 13 (Entry.v c)))] ?_ ?_
      ·refine av (aH Dm rfl 8 rfl wz (ay 0 0 il ft sz3 ag3 rfl rfl (vI c.From) rfl wz ?_))
       obtain ⟨Z,H,e⟩:=bind_some e
       refine aF (bH H) rfl tT rfl rfl rfl rfl wz ?_
       rcases ak e with⟨s,e⟩|⟨s,e⟩
       ·refine aD rfl s wz (ae (ae (ae (aa (vB true) (aa (vB true) (ae (ae (ae (aa (vB true) (ah ?_))))))))))
        obtain rfl:=af e
        exact cu
       ·refine aD rfl s wz (aH F7 rfl 9 rfl wa (ay 0 0 il ft sz3 ag3 rfl rfl (vI c.To) rfl wa ?_))
        obtain ⟨Q,I,e⟩:=bind_some e
        refine aF (bH I) rfl tT rfl rfl rfl rfl wa (aa (vB Q) ?_)
        rcases ak e with⟨t,e⟩|⟨t,e⟩
        ·refine aD rfl t wz (ae (ae (ae (aa (vB true) (ah ?_)))))
         obtain rfl:=af e
         exact cu
        ·refine aD rfl t wz (aH zQ rfl 10 rfl wa (ay 0 0 il ft sz3 ag3 rfl rfl (vI c.Prio) rfl wa ?_))
         obtain ⟨R,J,e⟩:=bind_some e
         refine aF (bH J) rfl tT rfl rfl rfl rfl wa (aa (vB R) (ah ?_))
         obtain rfl:=af e
         exact cu
      ·rintro ⟨⟩ _ A x i j
       refine aN _ i j ?_
       rcases ak a with⟨u,a⟩|⟨u,a⟩
       ·refine aB rfl u (aj (aa (vI 1) (ah ?_)))
        obtain rfl:=af a
        exact aC (aL [(vI 1)] ⟨rfl,trivial⟩)
       ·refine aA rfl u (ax (aj (aH mI rfl 11 rfl wz (ay 0 0 il ft tV xn rfl rfl (vL eS c.Tags) rfl wz ?_))))
        obtain ⟨y,K,a⟩:=bind_some a
        refine aF (qz K) rfl hb77 rfl rfl rfl rfl wz (aa (vI y) (ah ?_))
        obtain rfl:=af a
        exact aC (aL [(vI y)] ⟨rfl,trivial⟩)
theorem iW {a:(List Entry)} {r:Int} (e:di a=some r) :
  FnM Tryz.prog 22 [(vL Entry.enc a)] [] (vI r) []:=by
 refine FnM.of_wH ⟨Tryz.prog,35,[],[]⟩ rfl Tryz.func22 rfl rfl (lb_ rfl) (by kernel_rfl) ?_
 unfold di at e
 refine aj (aa (vI 0) (ah (au (aj (aa (vL Entry.enc a) (bS Cv rfl wz (aa (vB (decide ((a.length:Int)>200))) (ah ?_))))))))
 rcases ak e with⟨p,e⟩|⟨p,e⟩
 ·refine aB rfl p (aj (aa (vI 2) (ah ?_)))
  obtain rfl:=af e
  exact aC (aL [(vI 2)] ⟨rfl,trivial⟩)
 ·refine aA rfl p (ax (au (aj (aa (vL Entry.enc a) (bS Cv rfl wz (aa (vI 0) (ah ?_)))))))
  obtain ⟨G,t,e⟩:=bind_some e
  obtain ⟨A,t⟩:=aW t
  refine cz (λ(l:Unit)=>[]) (λ(l:Unit)=>[]) (λ(c:Nat)=>(λ(l:Unit)=>[(0,(vL Entry.enc a)),(9,(vL Entry.enc a)),(10,(vI (a.length:Int))),(11,(vI (c:Int)))])) (λk x s=>eY a k x s) G a () t rfl (aI rfl) ?_ ?_
  ·rintro ⟨c,y,l⟩ ⟨f,i⟩
   dsimp only at f i
   cases y with
   | nil =>
    obtain rfl:=af f
    refine aj (aa (vB (decide ((c:Int)<(a.length:Int)))) (ah ?_))
    refine au (aA rfl (drop_nil i) (aS ?_))
    exact aV (l) rfl rfl (aI rfl)
   | cons h y =>
    obtain ⟨J,b,f⟩:=bind_some f
    refine aj (aa (vB (decide ((c:Int)<(a.length:Int)))) (ah ?_))
    refine au (aB rfl (bv i) (ax ?_))
    unfold eY at b
    refine au (aM (aj (aa (vI (c:Int)) (dR yX rfl rfl (bJ i) rfl wz (bN kH qx rfl (.d (.agg (Entry.enc h))) rfl wz (bZ 0 (.inl rfl) z37 rfl wz (λF=>aa (vI (c:Int)) (dY 0 il ft 0 kH rfl rfl (Entry.v h) rfl wz (ah (au (aj (ay 0 0 il ft kH qx rfl rfl (.d (.agg (Entry.enc h))) rfl wz ?_))))))))))))
    obtain ⟨j,C,b⟩:=bind_some b
    refine aF (xR C) rfl hb41 rfl rfl rfl rfl wz (aa (vI j) (ah (aj (aa (vI j) (aa (vB (j != 0)) (ah ?_))))))
    rcases ak b with⟨n,b⟩|⟨n,b⟩
    ·refine aB rfl n (aj (aa (vI j) (aa (vI j) (ah ?_))))
     obtain rfl:=af b
     obtain rfl:=af f
     obtain rfl:=af e
     exact aC (aL [(vI j)] ⟨rfl,trivial⟩)
    ·refine aA rfl n (ax (au ?_))
     obtain ⟨I,g,b⟩:=bind_some b
     refine aP [(0,(vL Entry.enc a)),(9,(vL Entry.enc a)),(10,(vI (a.length:Int))),(11,(vI (c:Int))),(33,(vB I))] [(F,some (.cells 13 (Entry.v h)))] ?_ ?_
     ·refine bI (aa (vI (c:Int)) (aa (vB (decide ((c:Int)>0))) ?_))
      rcases ak g with⟨o,g⟩|⟨o,g⟩
      ·refine aD rfl o wz (aH sU rfl 0 rfl wa (ay 4 0 (.inr (by kernel_rfl)) (λ_ _ ag=>trivial) sz9 ag9 rfl rfl (vS h.Key) rfl wa (aK (vL Entry.enc a) wa rfl (aK (vI (c:Int)) wa rfl (aK (vI (w64 ((c:Int)-1))) wa rfl ?_)))))
       obtain ⟨m,E,g⟩:=bind_some g
       refine dR yX rfl rfl E rfl wa (oJ sU rfl (Entry.enc m) rfl rfl wa (bN sz9 ag9 rfl (vS m.Key) rfl wa (aK (vB (sLe h.Key m.Key)) wa rfl (aa (vB (sLe h.Key m.Key)) (ah ?_)))))
       obtain rfl:=af g
       exact cu
      ·refine aD rfl o wz (ae (ae (ae (ae (ae (ae (ae (ae (ae (aa (vB false) (ah ?_)))))))))))
       obtain rfl:=af g
       exact cu
     ·rintro ⟨⟩ _ H z u w
      refine aN _ u w ?_
      rcases ak b with⟨q,b⟩|⟨q,b⟩
      ·refine aB rfl q (aj (aa (vI 7) (ah ?_)))
       obtain rfl:=af b
       obtain rfl:=af f
       obtain rfl:=af e
       exact aC (aL [(vI 7)] ⟨rfl,trivial⟩)
      ·refine aA rfl q (ax (av (dX (bD i A) wz rfl (aa (vI ((c+1:Nat):Int)) (ah ?_)))))
       obtain rfl:=af b
       exact aU (c+1,y,()) ⟨f,aQ i⟩ (ls_ _) rfl (aI rfl)
  ·rintro l B H z u w
   subst B
   refine aN _ u w (aj (aa (vI 0) (ah ?_)))
   obtain rfl:=af e
   exact aC (aL [(vI 0)] ⟨rfl,trivial⟩)
theorem oo {b:Int} {r:Bool} (a:dL b=some r) :
  FnM Tryz.prog 42 [.nil,(vI b)] [] (kV r (aG 0) 13 ([]:List Entry)) (kO r 13):=by
 refine FnM.of_wH ⟨Tryz.prog,27,[],[]⟩ rfl Tryz.func42 rfl rfl (lb_ rfl) (by kernel_rfl) ?_
 unfold dL at a
 refine aj (aa .nil (ah (au (aj (aa (vI b) (aa (vB (decide (b<0))) (ah ?_)))))))
 rcases ak a with⟨c,a⟩|⟨c,a⟩
 ·refine aB rfl c (av ?_)
  cases a
 ·refine aA rfl c (ax (au (aj (aa (vI b) (aa .nil (Jk JV rfl wz (aa .nil (GN Cv rfl wz (aa (vI (w64 (0-0))) (aa (vI (w64 (b-(w64 (0-0))))) (aa (vI (w64 (b-(w64 (0-0))))) (ah (aj (aa (vI (w64 (b-(w64 (0-0))))) (aa (vB (decide ((w64 (b-(w64 (0-0))))>0))) (ah ?_))))))))))))))))
  rcases ak a with⟨d,a⟩|⟨d,a⟩
  ·refine aB rfl d (av (aa .nil (aa .nil (Jk JV rfl wz (aK .nil wz (by kernel_rfl) (aa (vI (w64 (b-(w64 (0-0))))) ?_))))))
   obtain ⟨_,f,a⟩:=bind_some a
   refine QC (enc:=Entry.enc) 0 (.inl rfl) JV (by kernel_rfl) kH z37 rfl (by decide) by37 rfl rfl f wz (λe=>aa .nil (GN Cv rfl wz (PD (m:=0) Cv kH rfl rfl rfl (Nat.zero_le _) wz (aa (.vs e 13 0 0) (ah (aj (aa (.vs e 13 0 0) (aa (.vs e 13 0 0) (ah ?_)))))))))
   obtain rfl:=af a
   exact aC (finK (.inr rfl) 0 rfl rfl)
  ·refine aA rfl d (ax (aj (aa .nil (aa .nil (ah ?_)))))
   obtain rfl:=af a
   exact aC (finK0 (.inr rfl) rfl)
theorem ow {a:(List (List Entry))} {r:(List Entry)} (g:dx a=some r) :
  FnM Tryz.prog 23 [(vL (eL Entry.enc) a)] [] (vL Entry.enc r) []:=by
 refine FnM.of_wH ⟨Tryz.prog,36,[],[]⟩ rfl Tryz.func23 rfl rfl (lb_ rfl) (by kernel_rfl) ?_
 unfold dx at g
 refine aj (aa .nil (ah (aj (aa (vI 0) (ah (au (aj (aa (vL (eL Entry.enc) a) (bS un104 rfl wz (aa (vI 0) (ah ?_)))))))))))
 obtain ⟨R,z,g⟩:=bind_some g
 obtain ⟨O,z⟩:=aW z
 refine cz (λ(b:Int)=>[(0,(vL (eL Entry.enc) a)),(3,(vI b))]) (λ(b:Int)=>[]) (λ(h:Nat)=>(λ(b:Int)=>[(0,(vL (eL Entry.enc) a)),(3,(vI b)),(9,(vL (eL Entry.enc) a)),(10,(vI (a.length:Int))),(11,(vI (h:Int)))])) (λk x s=>bC k x s) R a 0 z rfl (aI rfl) ?_ ?_
 ·rintro ⟨h,E,b⟩ ⟨o,l⟩
  dsimp only at o l
  cases E with
  | nil =>
   obtain rfl:=af o
   refine aj (aa (vB (decide ((h:Int)<(a.length:Int)))) (ah ?_))
   refine au (aA rfl (drop_nil l) (aS ?_))
   exact aV (b) rfl rfl (aI rfl)
  | cons e E =>
   obtain ⟨L,w,o⟩:=bind_some o
   refine aj (aa (vB (decide ((h:Int)<(a.length:Int)))) (ah ?_))
   refine au (aB rfl (bv l) (ax ?_))
   unfold bC at w
   refine au (aM (aj (dR Pv rfl rfl (bJ l) rfl wz (bN sz26 ag26 rfl (vL Entry.enc e) rfl wz (aa (vL Entry.enc e) (ah (aj (aa (vI b) (aa (vL Entry.enc e) (bS Cv rfl wz (aa (vI (w64 (b+(e.length:Int)))) (aa (vI (w64 (b+(e.length:Int)))) (ah (aj (aa (vI (w64 (b+(e.length:Int)))) (aa (vB (decide ((w64 (b+(e.length:Int)))<0))) (ah ?_)))))))))))))))))
   obtain ⟨U,q,w⟩:=bind_some w
   refine aP [(0,(vL (eL Entry.enc) a)),(3,(vI (w64 (b+(e.length:Int))))),(9,(vL (eL Entry.enc) a)),(10,(vI (a.length:Int))),(11,(vI (h:Int)))] [] ?_ ?_
   ·rcases ak q with⟨y,q⟩|⟨y,q⟩
    ·refine aB rfl y (av ?_)
     cases q
    ·refine aA rfl y (ax ?_)
     obtain rfl:=af q
     exact cu
   ·rintro ⟨⟩ _ K G t u
    refine aN _ t u (av (dX (bD l O) wz rfl (aa (vI ((h+1:Nat):Int)) (ah ?_))))
    obtain rfl:=af w
    exact aU (h+1,E,(w64 (b+(e.length:Int)))) ⟨o,aQ l⟩ (ls_ _) rfl (aI rfl)
 ·rintro b B K G t u
  subst B
  refine aN _ t u (aj (aa (vI b) ?_))
  obtain ⟨f,P,g⟩:=bind_some g
  refine Nf (enc:=Entry.enc) (oo P) rfl hb42 (by kernel_rfl) rfl (by kernel_rfl) wz (λI=>aa (kV f I 13 ([]:List Entry)) (ah (au (aj (aa (vL (eL Entry.enc) a) (bS un104 rfl wz (aa (vI 0) (ah ?_))))))))
  obtain ⟨T,A,g⟩:=bind_some g
  obtain ⟨M,A⟩:=aW A
  refine gH (σ:=(List Entry)) (N:=Nm) (λp=>(λ(c:List Entry) (d:Nm)=>([(6,(kV f d 13 c))]:SL_)) p.1 p.2) (λp=>(λ(c:List Entry) (d:Nm)=>([(d,kB f 13 Entry.enc c)]:Hp)) p.1 p.2) (λ(m:Nat)=>(λp=>(λ(c:List Entry) (d:Nm)=>([(6,(kV f d 13 c)),(25,(vL (eL Entry.enc) a)),(26,(vI (a.length:Int))),(27,(vI (m:Int)))]:SL_)) p.1 p.2)) (λk x s=>bE k x s) T a (([]:List Entry),I) A rfl (aI rfl) ?_ ?_
  ·rintro ⟨m,C,c,d⟩ ⟨n,j⟩
   dsimp only at n j
   cases C with
   | nil =>
    obtain rfl:=af n
    refine aj (aa (vB (decide ((m:Int)<(a.length:Int)))) (ah ?_))
    refine au (aA rfl (drop_nil j) (aS ?_))
    exact aV (c,d) rfl rfl (aI rfl)
   | cons F C =>
    obtain ⟨L,v,n⟩:=bind_some n
    refine aj (aa (vB (decide ((m:Int)<(a.length:Int)))) (ah ?_))
    refine au (aB rfl (bv j) (ax ?_))
    unfold bE at v
    refine au (aM (aj (dR Pv rfl rfl (bJ j) rfl wz (bN sz26 ag26 rfl (vL Entry.enc F) rfl wz (aa (vL Entry.enc F) (ah (av (aa (kV f d 13 c) (aa (vL Entry.enc F) ?_)))))))))
    obtain ⟨H,Q,v⟩:=bind_some v
    refine MF 0 il ft (i:=0) JV JV kH z37 rfl (by decide) by37 (by decide) (λ_=>rfl) rfl rfl rfl Q wz (λJ=>aa (kV f J 13 H) (ah (av (dX (bD j M) wz rfl (aa (vI ((m+1:Nat):Int)) (ah ?_))))))
    obtain rfl:=af v
    exact aU (m+1,C,H,J) ⟨n,aQ j⟩ (ls_ _) rfl (aI rfl)
  ·rintro ⟨c,d⟩ B K G t u
   subst B
   refine aN _ t u (aj (aa (kV f d 13 c) (aa (kV f d 13 c) (ah (K9 0 rfl (DD 2 0 rfl rfl (DD 6 0 rfl rfl (DD 35 0 rfl rfl ?_))))))))
   obtain rfl:=af g
   exact aC (aL [(vL Entry.enc c)] ⟨rfl,trivial⟩)
theorem pu {s1_1:(List Int)} {s2_2:(List Int)} {r:Bool} (b:je s1_1 s2_2=some r) :
  FnM Tryz.prog 33 [(vL eI s1_1),(vL eI s2_2)] [] (vB r) []:=by
 refine FnM.of_wH ⟨Tryz.prog,26,[],[]⟩ rfl Tryz.func33 rfl rfl (lb_ rfl) (by kernel_rfl) ?_
 unfold je at b
 refine aj (aa (vB false) (ah (au (aj (aa (vL eI s1_1) (bS sN rfl wz (aa (vL eI s2_2) (bS sN rfl wz (aa (vB ((s1_1.length:Int) != (s2_2.length:Int))) (ah ?_))))))))))
 rcases ak b with⟨h,b⟩|⟨h,b⟩
 ·refine aB rfl h (aj (aa (vB false) (ah ?_)))
  obtain rfl:=af b
  exact aC (aL [(vB false)] ⟨rfl,trivial⟩)
 ·refine aA rfl h (ax (au (aj (aa (vL eI s1_1) (bS sN rfl wz (aa (vI 0) (ah ?_)))))))
  obtain ⟨u,i,b⟩:=bind_some b
  obtain ⟨n,i⟩:=aW i
  refine cz (λ(f:Unit)=>[]) (λ(f:Unit)=>[]) (λ(a:Nat)=>(λ(f:Unit)=>[(0,(vL eI s1_1)),(1,(vL eI s2_2)),(12,(vI (s1_1.length:Int))),(13,(vI (a:Int)))])) (λk x s=>gX s2_2 k x s) u s1_1 () i rfl (aI rfl) ?_ ?_
  ·rintro ⟨a,j,f⟩ ⟨e,d⟩
   dsimp only at e d
   cases j with
   | nil =>
    obtain rfl:=af e
    refine aj (aa (vB (decide ((a:Int)<(s1_1.length:Int)))) (ah ?_))
    refine au (aA rfl (drop_nil d) (aS ?_))
    exact aV (f) rfl rfl (aI rfl)
   | cons l j =>
    obtain ⟨w,c,e⟩:=bind_some e
    refine aj (aa (vB (decide ((a:Int)<(s1_1.length:Int)))) (ah ?_))
    refine au (aB rfl (bv d) (ax ?_))
    unfold gX at c
    refine au (aM (aj (aa (vI (a:Int)) (aa (vI (a:Int)) (ah (au (bI (aa (vL eI s1_1) (aa (vI (a:Int)) (dR ko rfl rfl (bJ d) rfl wz (bN sz3 ag3 rfl (vI l) rfl wz (aa (vL eI s2_2) (aa (vI (a:Int)) ?_)))))))))))))
    obtain ⟨m,t,c⟩:=bind_some c
    refine dR ko rfl rfl t rfl wz (bN sz3 ag3 rfl (vI m) rfl wz (aa (vB (l != m)) (ah ?_)))
    rcases ak c with⟨g,c⟩|⟨g,c⟩
    ·refine aB rfl g (aj (aa (vB false) (ah ?_)))
     obtain rfl:=af c
     obtain rfl:=af e
     obtain rfl:=af b
     exact aC (aL [(vB false)] ⟨rfl,trivial⟩)
    ·refine aA rfl g (ax (av (dX (bD d n) wz rfl (aa (vI ((a+1:Nat):Int)) (ah ?_)))))
     obtain rfl:=af c
     exact aU (a+1,j,()) ⟨e,aQ d⟩ (ls_ _) rfl (aI rfl)
  ·rintro f o y v p q
   subst o
   refine aN _ p q (aj (aa (vB true) (ah ?_)))
   obtain rfl:=af b
   exact aC (aL [(vB true)] ⟨rfl,trivial⟩)
theorem jc {s1_1:(List ByteArray)} {s2_2:(List ByteArray)} {r:Bool} (b:ek s1_1 s2_2=some r) :
  FnM Tryz.prog 15 [(vL eS s1_1),(vL eS s2_2)] [] (vB r) []:=by
 refine FnM.of_wH ⟨Tryz.prog,26,[],[]⟩ rfl Tryz.func15 rfl rfl (lb_ rfl) (by kernel_rfl) ?_
 unfold ek at b
 refine aj (aa (vB false) (ah (au (aj (aa (vL eS s1_1) (bS yz rfl wz (aa (vL eS s2_2) (bS yz rfl wz (aa (vB ((s1_1.length:Int) != (s2_2.length:Int))) (ah ?_))))))))))
 rcases ak b with⟨h,b⟩|⟨h,b⟩
 ·refine aB rfl h (aj (aa (vB false) (ah ?_)))
  obtain rfl:=af b
  exact aC (aL [(vB false)] ⟨rfl,trivial⟩)
 ·refine aA rfl h (ax (au (aj (aa (vL eS s1_1) (bS yz rfl wz (aa (vI 0) (ah ?_)))))))
  obtain ⟨u,i,b⟩:=bind_some b
  obtain ⟨n,i⟩:=aW i
  refine cz (λ(f:Unit)=>[]) (λ(f:Unit)=>[]) (λ(a:Nat)=>(λ(f:Unit)=>[(0,(vL eS s1_1)),(1,(vL eS s2_2)),(12,(vI (s1_1.length:Int))),(13,(vI (a:Int)))])) (λk x s=>eF s2_2 k x s) u s1_1 () i rfl (aI rfl) ?_ ?_
  ·rintro ⟨a,j,f⟩ ⟨e,d⟩
   dsimp only at e d
   cases j with
   | nil =>
    obtain rfl:=af e
    refine aj (aa (vB (decide ((a:Int)<(s1_1.length:Int)))) (ah ?_))
    refine au (aA rfl (drop_nil d) (aS ?_))
    exact aV (f) rfl rfl (aI rfl)
   | cons l j =>
    obtain ⟨w,c,e⟩:=bind_some e
    refine aj (aa (vB (decide ((a:Int)<(s1_1.length:Int)))) (ah ?_))
    refine au (aB rfl (bv d) (ax ?_))
    unfold eF at c
    refine au (aM (aj (aa (vI (a:Int)) (aa (vI (a:Int)) (ah (au (bI (aa (vL eS s1_1) (aa (vI (a:Int)) (dR qW rfl rfl (bJ d) rfl wz (bN sz9 ag9 rfl (vS l) rfl wz (aa (vL eS s2_2) (aa (vI (a:Int)) ?_)))))))))))))
    obtain ⟨m,t,c⟩:=bind_some c
    refine dR qW rfl rfl t rfl wz (bN sz9 ag9 rfl (vS m) rfl wz (aa (vB (sNe l m)) (ah ?_)))
    rcases ak c with⟨g,c⟩|⟨g,c⟩
    ·refine aB rfl g (aj (aa (vB false) (ah ?_)))
     obtain rfl:=af c
     obtain rfl:=af e
     obtain rfl:=af b
     exact aC (aL [(vB false)] ⟨rfl,trivial⟩)
    ·refine aA rfl g (ax (av (dX (bD d n) wz rfl (aa (vI ((a+1:Nat):Int)) (ah ?_)))))
     obtain rfl:=af c
     exact aU (a+1,j,()) ⟨e,aQ d⟩ (ls_ _) rfl (aI rfl)
  ·rintro f o y v p q
   subst o
   refine aN _ p q (aj (aa (vB true) (ah ?_)))
   obtain rfl:=af b
   exact aC (aL [(vB true)] ⟨rfl,trivial⟩)
end Go.Proofs.YtadpbmfnnlkdlabGreatDoor.Law

