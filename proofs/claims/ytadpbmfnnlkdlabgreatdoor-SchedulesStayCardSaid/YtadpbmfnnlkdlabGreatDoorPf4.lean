/-
 The machine computes these plain functions (written by a program of ours).
-/
import Derived.Test.YtadpbmfnnlkdlabGreatDoorFacts
import Derived.Test.YtadpbmfnnlkdlabGreatDoorDefs
import Derived.Test.YtadpbmfnnlkdlabGreatDoorPf3
import Derived.Test.YtadpbmfnnlkdlabGreatDoorShelf
open Go Go.Eng Go.Proofs
namespace Go.Proofs.YtadpbmfnnlkdlabGreatDoor.Law
set_option maxRecDepth 100000
set_option linter.unusedVariables false
set_option maxHeartbeats 1000000
theorem Cb {y:(List Entry)} {f:Player} {a:Window} {r:(List Int)} (c:nz y f a=some r) :
  FnM Tryz.prog 56 [(vL Entry.enc y),(.d (.agg (Player.enc f))),(.d (.agg (Window.enc a)))] [] (vL eI r) []:=by
 refine FnM.of_wH ⟨Tryz.prog,41,[15],[]⟩ rfl Tryz.func56 rfl rfl (lb_ rfl) (by kernel_rfl) ?_
 unfold nz at c
 refine aj (dQ 0 (.inl rfl) (Player.v f) rfl rfl wz (λA=>dQ 0 (.inl rfl) [(vI a.From),(vI a.To)] rfl rfl wz (λt=>aa .nil (ah (aj (aH jB rfl 0 rfl wz (ay 0 1 il ft sz3 ag3 rfl rfl (vI a.From) rfl wz (aH kz rfl 1 rfl wz (ay 0 1 il ft sz3 ag3 rfl rfl (vI a.To) rfl wz (h_litv 0 (.inl rfl) (([a.From,a.To]:List Int).map eI) ko yQ rfl rfl rfl rfl rfl wz (λF=>aa (vV F 1 ([a.From,a.To]:List Int)) (ah (au (aj (aa (vL Entry.enc y) (ay 0 0 il ft yM Bg rfl rfl (.d (.agg (Player.enc f))) rfl wz (ay 0 1 il ft mM tK rfl rfl (.d (.agg (Window.enc a))) rfl wz ?_)))))))))))))))))
 obtain ⟨q,P,c⟩:=bind_some c
 refine aF (Ce P) rfl hb50 rfl rfl rfl rfl wz (bS EE rfl wz (aa (vI 0) (ah ?_)))
 obtain ⟨R,w,c⟩:=bind_some c
 obtain ⟨H,w⟩:=aW w
 refine gH (σ:=(List Int)) (N:=Nm) (λp=>(λ(e:List Int) (b:Nm)=>([(7,(vV b 1 e))]:SL_)) p.1 p.2) (λp=>(λ(e:List Int) (b:Nm)=>([(A,some (.cells 4 (Player.v f))),(t,some (.cells 2 [(vI a.From),(vI a.To)])),(b,some (bV 1 eI e))]:Hp)) p.1 p.2) (λ(j:Nat)=>(λp=>(λ(e:List Int) (b:Nm)=>([(5,(.ref t 0 0)),(7,(vV b 1 e)),(19,(vL Span.enc q)),(20,(vI (q.length:Int))),(21,(vI (j:Int)))]:SL_)) p.1 p.2)) (λk x s=>jZ a k x s) R q (([a.From,a.To]:List Int),F) w rfl (aI rfl) ?_ ?_
 ·rintro ⟨j,z,e,b⟩ ⟨m,g⟩
  dsimp only at m g
  cases z with
  | nil =>
   obtain rfl:=af m
   refine aj (aa (vB (decide ((j:Int)<(q.length:Int)))) (ah ?_))
   refine au (aA rfl (drop_nil g) (aS ?_))
   exact aV (e,b) rfl rfl (aI rfl)
  | cons B z =>
   obtain ⟨U,h,m⟩:=bind_some m
   refine aj (aa (vB (decide ((j:Int)<(q.length:Int)))) (ah ?_))
   refine au (aB rfl (bv g) (ax ?_))
   unfold jZ at h
   refine au (aM (aj (dR CL rfl rfl (bJ g) rfl wz (bN qE CP rfl (.d (.agg (Span.enc B))) rfl wz (bZ 0 (.inl rfl) z76 rfl wz (λW=>dY 0 il ft 3 qE rfl rfl (Span.v B) (Aa rfl (bX (nU _ _) (bX rfl (bX rfl rfl))) rfl rfl) wz (ah (aj (aH Bf rfl 1 rfl wz (ay 0 3 il ft mM tK rfl rfl (.d (.agg (Window.enc B.f_time))) rfl wz (ay 0 1 il ft mM tK rfl rfl (.d (.agg (Window.enc a))) rfl wz ?_)))))))))))
   obtain ⟨l,L,h⟩:=bind_some h
   refine aF (yE L) rfl hb69 rfl rfl rfl rfl wz (bZ 0 (.inl rfl) z46 rfl wz (λX=>dY 0 il ft 4 mM rfl rfl [(vI l.From),(vI l.To)] rfl wz (ah (av (aa (vV b 1 e) (aH jB rfl 0 rfl wz (ay 0 4 il ft sz3 ag3 rfl rfl (vI l.From) rfl wz (aH kz rfl 1 rfl wz (ay 0 4 il ft sz3 ag3 rfl rfl (vI l.To) rfl wz (eP (([l.From,l.To]:List Int).map eI) ko yQ rfl rfl rfl rfl rfl wz ?_))))))))))
   obtain ⟨C,Q,h⟩:=bind_some h
   refine O7 0 il ft (i:=2) Jy Jy sz3 z3 rfl (by decide) by3 (by decide) (λ_=>rfl) rfl rfl rfl Q wz (λE=>aa (vV E 1 C) (ah (av (dX (bD g H) wz rfl (aa (vI ((j+1:Nat):Int)) (ah ?_))))))
   obtain rfl:=af h
   exact aU (j+1,z,C,E) ⟨m,aQ g⟩ (ls_ _) rfl (aI rfl)
 ·rintro ⟨e,b⟩ I Y T J K
  subst I
  refine aN _ J K (aj (aa (vV b 1 e) ?_))
  obtain ⟨_,n,c⟩:=bind_some c
  replace n:=Mj n
  refine Io 2 rfl (EO n).symm (eU (v':=(gV b 1 e)) 37 rfl (vV_gV n) (eU (v':=(gV b 1 e)) 7 rfl (vV_gV n) ?_))
  obtain ⟨u,M,c⟩:=bind_some c
  obtain ⟨_,o,c⟩:=bind_some c
  replace o:=qo o
  refine oN 0 [] 2 0 il ft (nX M) rfl hb86 rfl rfl rfl (by kernel_rfl) rfl (.inl rfl) rfl (by kernel_rfl) (by kernel_rfl) (by kernel_rfl) (by kernel_rfl) rfl (by decide) (by kernel_rfl) rC (Ay o) wz ([(A,some (.cells 4 (Player.v f))),(t,some (.cells 2 [(vI a.From),(vI a.To)])),(b,gB 1 eI u)]:Hp) (by kernel_rfl) (eU (v':=(gV b 1 u)) 37 rfl (ja o.symm) (eU (v':=(gV b 1 u)) 7 rfl (ja o.symm) (ah (aj (aa (gV b 1 u) ?_)))))
  obtain ⟨G,O,c⟩:=bind_some c
  refine oN 0 [] 2 0 il ft (l6 O) rfl hb87 rfl rfl rfl (by kernel_rfl) rfl (.inl rfl) rfl (by kernel_rfl) (by kernel_rfl) (by kernel_rfl) (by kernel_rfl) rfl (by decide) (by kernel_rfl) Cc (λ_=>rfl) wz ([(A,some (.cells 4 (Player.v f))),(t,some (.cells 2 [(vI a.From),(vI a.To)])),(b,none)]:Hp) (by kernel_rfl) (aa (vL eI G) (ah ?_))
  obtain rfl:=af c
  exact aC (aL [(vL eI G)] ⟨rfl,trivial⟩)
theorem mg {a:Span} {c:(List Int)} {e:Int} {r:Bool} (b:fE a c e=some r) :
  FnM Tryz.prog 58 [(.d (.agg (Span.enc a))),(.ref (aG 0) 0 0),(.ref (aG 1) 0 0)] [(.cells 1 [(vL eI c)]),(.cells 1 [(vI e)])] (vB r) [some (.cells 1 [(vL eI c)]),some (.cells 1 [(vI e)])]:=by
 refine FnM.of_wH ⟨Tryz.prog,13,[],[]⟩ rfl Tryz.func58 rfl rfl (lb_ rfl) (by kernel_rfl) ?_
 unfold fE at b
 refine aj (dQ 0 (.inl rfl) (Span.v a) rfl (bX (nU _ _) (bX rfl (bX rfl rfl))) wz (λh=>aa (vB false) (ah (au (bI (aH Bf rfl 1 rfl wz (aH kz rfl 2 rfl wz (ay 2 2 (.inr (by kernel_rfl)) (λ_ _ ag=>trivial) sz3 ag3 rfl rfl (vI a.f_time.To) rfl wz (ay 3 0 (.inr (by kernel_rfl)) (λ_ _ ag=>⟨.inl ⟨rfl,rfl⟩,trivial⟩) sF xE rfl rfl (vL eI c) rfl wz (ay 4 1 (.inr (by kernel_rfl)) (λ_ _ ag=>⟨.inl ⟨rfl,rfl⟩,⟨.inl ⟨rfl,rfl⟩,trivial⟩⟩) sz3 ag3 rfl rfl (vI e) rfl wz ?_))))))))))
 obtain ⟨f,g,b⟩:=bind_some b
 refine dR ko rfl rfl g rfl wz (bN sz3 ag3 rfl (vI f) rfl wz (aa (vB (decide (a.f_time.To<=f))) (aa (vB (decide (a.f_time.To<=f))) (ah ?_))))
 obtain rfl:=af b
 exact aC (Ar (.inr rfl) [(vB (decide (a.f_time.To<=f)))] _ [0,1] [aG 0,aG 1] ⟨rfl,trivial⟩ (.cons (kK rfl rfl) (.nil)) (by kernel_rfl) ⟨(by kernel_rfl),⟨(by kernel_rfl),trivial⟩⟩ (by decide) (by kernel_rfl))
theorem jK {a:(List Span)} {f2_3:(List Int)} {f2_4:Int} {r:Int} (g:dS a f2_3 f2_4=some r) :
  FnM Tryz.prog 88 [(vV (aG 2) 3 a),(.fn 58 [(.ref (aG 0) 0 0),(.ref (aG 1) 0 0)])] (([(.cells 1 [(vL eI f2_3)]),(.cells 1 [(vI f2_4)])]:List Box)++[(bV 3 Span.enc a)]) (vI r) ((([(.cells 1 [(vL eI f2_3)]),(.cells 1 [(vI f2_4)])]:List Box)).map some++[some (bV 3 Span.enc a)]):=by
 refine FnM.of_wH ⟨Tryz.prog,19,[],[]⟩ rfl Tryz.func88 rfl rfl (lb_ rfl) (by kernel_rfl) ?_
 unfold dS at g
 refine aj (aa (vI 0) (ah (au (aj (aa (vV (aG 2) 3 a) (Ki EE rfl wz (aa (vI 0) (ah ?_))))))))
 obtain ⟨w,j,g⟩:=bind_some g
 obtain ⟨o,j⟩:=aW j
 refine cz (λ(h:Unit)=>[]) (λ(h:Unit)=>[((aG 0),some (.cells 1 [(vL eI f2_3)])),((aG 1),some (.cells 1 [(vI f2_4)])),((aG 2),some (bV 3 Span.enc a))]) (λ(c:Nat)=>(λ(h:Unit)=>[(0,(vV (aG 2) 3 a)),(1,(.fn 58 [(.ref (aG 0) 0 0),(.ref (aG 1) 0 0)])),(7,(vI (a.length:Int))),(8,(vI (c:Int)))])) (λk x s=>dI a f2_3 f2_4 k x s) w (List.range ((a.length:Int)).toNat) () j rfl (aI rfl) ?_ ?_
 ·rintro ⟨c,l,h⟩ ⟨e,f⟩
  dsimp only at e f
  cases l with
  | nil =>
   obtain rfl:=af e
   refine aj (aa (vB (decide ((c:Int)<(a.length:Int)))) (ah ?_))
   refine au (aA rfl (nO f) (aS ?_))
   exact aV (h) rfl rfl (aI rfl)
  | cons C l =>
   obtain ⟨A,b,e⟩:=bind_some e
   refine aj (aa (vB (decide ((c:Int)<(a.length:Int)))) (ah ?_))
   refine au (aB rfl (lu f) (ax ?_))
   unfold dI at b
   refine au (aM (aj (aa (vI (c:Int)) (aa (vI (c:Int)) (ah (aj (aa (.fn 58 [(.ref (aG 0) 0 0),(.ref (aG 1) 0 0)]) (aa (vV (aG 2) 3 a) (aa (vI (c:Int)) ?_)))))))))
   obtain ⟨_,m,b⟩:=bind_some b
   refine BU CL rfl rfl (jM m) (gK m) wz ?_
   obtain ⟨n,v,b⟩:=bind_some b
   refine Ik 0 2 il ft qE CP rfl rfl v (.d (.agg (Span.enc n))) rfl wz ?_
   obtain ⟨y,u,b⟩:=bind_some b
   refine fu 0 [0,1] il ft (mg u) rfl hb58 rfl (by kernel_rfl) (by kernel_rfl) (by kernel_rfl) (by kernel_rfl) (by kernel_rfl) (by kernel_rfl) (by kernel_rfl) (by decide) (by kernel_rfl) wz (vB y) (by kernel_rfl) ([((aG 0),some (.cells 1 [(vL eI f2_3)])),((aG 1),some (.cells 1 [(vI f2_4)])),((aG 2),some (bV 3 Span.enc a))]:Hp) (by kernel_rfl) (ah ?_)
   rcases ak b with⟨i,b⟩|⟨i,b⟩
   ·refine aB rfl i (aj (aa (vI (c:Int)) (aa (vI (c:Int)) (ah ?_))))
    obtain rfl:=af b
    obtain rfl:=af e
    obtain rfl:=af g
    exact aC (Ar (.inr rfl) [(vI (c:Int))] _ [0,1,2] [aG 0,aG 1,aG 2] ⟨rfl,trivial⟩ (.cons (kK rfl rfl) (.nil)) (by kernel_rfl) ⟨(by kernel_rfl),⟨(by kernel_rfl),⟨(by kernel_rfl),trivial⟩⟩⟩ (by decide) (by kernel_rfl))
   ·refine aA rfl i (ax (av (dX (nR f o) wz rfl (aa (vI ((c+1:Nat):Int)) (ah ?_)))))
    obtain rfl:=af b
    exact aU (c+1,l,()) ⟨e,aQ f⟩ (ls_ _) rfl (aI rfl)
 ·rintro h p B z q t
  subst p
  refine aN _ q t (aj (aa (vI (-1)) (ah ?_)))
  obtain rfl:=af g
  exact aC (Ar (.inr rfl) [(vI (-1))] _ [0,1,2] [aG 0,aG 1,aG 2] ⟨rfl,trivial⟩ (.cons (kK rfl rfl) (.nil)) (by kernel_rfl) ⟨(by kernel_rfl),⟨(by kernel_rfl),⟨(by kernel_rfl),trivial⟩⟩⟩ (by decide) (by kernel_rfl))
theorem jE {h:(List Span)} {del2_3:(List Int)} {del2_4:Int} {r:(List Span)} (b:bO h del2_3 del2_4=some r) :
  FnM Tryz.prog 57 [(vV (aG 2) 3 h),(.fn 58 [(.ref (aG 0) 0 0),(.ref (aG 1) 0 0)])] (([(.cells 1 [(vL eI del2_3)]),(.cells 1 [(vI del2_4)])]:List Box)++[(bV 3 Span.enc h)]) (vV (aG 2) 3 r) ((([(.cells 1 [(vL eI del2_3)]),(.cells 1 [(vI del2_4)])]:List Box)).map some++[some (bV 3 Span.enc r)]):=by
 refine FnM.of_wH ⟨Tryz.prog,42,[],[]⟩ rfl Tryz.func57 rfl rfl (lb_ rfl) (by kernel_rfl) ?_
 unfold bO at b
 refine aj (aa .nil (ah (aj (aa (vV (aG 2) 3 h) (aa (.fn 58 [(.ref (aG 0) 0 0),(.ref (aG 1) 0 0)]) ?_)))))
 obtain ⟨g,F,b⟩:=bind_some b
 refine KL 0 [0,1] 2 0 il ft (jK F) rfl hb88 rfl rfl (by kernel_rfl) (by kernel_rfl) rfl rfl (by kernel_rfl) (by kernel_rfl) (by kernel_rfl) (by kernel_rfl) rfl (by decide) (by kernel_rfl) bV_ok wz (vI g) (by kernel_rfl) ([((aG 0),some (.cells 1 [(vL eI del2_3)])),((aG 1),some (.cells 1 [(vI del2_4)])),((aG 2),some (bV 3 Span.enc h))]:Hp) (by kernel_rfl) (aa (vI g) (ah (au (aj (aa (vI g) (aa (vB (g==(-1))) (ah ?_)))))))
 rcases ak b with⟨p,b⟩|⟨p,b⟩
 ·refine aB rfl p (aj (aa (vV (aG 2) 3 h) (aa (vV (aG 2) 3 h) (ah ?_))))
  obtain rfl:=af b
  exact aC (Ar (.inr rfl) [(vV (aG 2) 3 h)] _ [0,1,2] [aG 0,aG 1,aG 2] ⟨rfl,trivial⟩ (.cons (GJ _) (.nil)) (by kernel_rfl) ⟨(by kernel_rfl),⟨(by kernel_rfl),⟨(by kernel_rfl),trivial⟩⟩⟩ (by decide) (by kernel_rfl))
 ·refine aA rfl p (ax (au (aj (aa (vI g) (aa (vI (w64 (g+1))) (aa (vI (w64 (g+1))) (ah ?_)))))))
  obtain ⟨J,q,b⟩:=bind_some b
  obtain ⟨I,q⟩:=dJ q
  refine gq (λ(a:(List Span)×Int×Int)=>[(0,(vV (aG 2) 3 a.1)),(5,(vI a.2.1))]) (λ(a:(List Span)×Int×Int)=>[((aG 0),some (.cells 1 [(vL eI del2_3)])),((aG 1),some (.cells 1 [(vI del2_4)])),((aG 2),some (bV 3 Span.enc a.1))]) (λ(m:Nat)=>(λ(a:(List Span)×Int×Int)=>[(0,(vV (aG 2) 3 a.1)),(1,(.fn 58 [(.ref (aG 0) 0 0),(.ref (aG 1) 0 0)])),(5,(vI a.2.1)),(6,(vI a.2.2))])) (λs=>dH del2_3 del2_4 s) J I (h,g,(w64 (g+1))) q rfl (aI rfl) ?_ ?_
  ·rintro ⟨m,a⟩ j
   dsimp only at j
   cases m with
   | zero=>cases j
   | succ m =>
    obtain ⟨L,c,j⟩:=bind_some j
    unfold dH at c
    refine au (aj (aa (vI a.2.2) (aa (vV (aG 2) 3 a.1) (Ki EE rfl wz (aa (vB (decide (a.2.2<(a.1.length:Int)))) (ah ?_))))))
    rcases ak c with⟨n,c⟩|⟨n,c⟩
    ·refine aB rfl n (ax (au (aM (aj (aa (vV (aG 2) 3 a.1) (aa (vI a.2.2) ?_))))))
     obtain ⟨_,w,c⟩:=bind_some c
     refine BU CL rfl rfl (jM w) (gK w) wz ?_
     obtain ⟨e,G,c⟩:=bind_some c
     refine Ik 0 2 il ft qE CP rfl rfl G (.d (.agg (Span.enc e))) rfl wz (bZ 0 (.inl rfl) z76 rfl wz (λz=>dY 0 il ft 3 qE rfl rfl (Span.v e) (Aa rfl (bX (nU _ _) (bX rfl (bX rfl rfl))) rfl rfl) wz (ah (aj (aa (.fn 58 [(.ref (aG 0) 0 0),(.ref (aG 1) 0 0)]) (ay 0 3 il ft qE CP rfl rfl (.d (.agg (Span.enc e))) rfl wz ?_))))))
     obtain ⟨A,E,c⟩:=bind_some c
     refine fu 0 [0,1] il ft (mg E) rfl hb58 rfl (by kernel_rfl) (by kernel_rfl) (by kernel_rfl) (by kernel_rfl) (by kernel_rfl) (by kernel_rfl) (by kernel_rfl) (by decide) (by kernel_rfl) wz (vB A) (by kernel_rfl) ([((aG 0),some (.cells 1 [(vL eI del2_3)])),((aG 1),some (.cells 1 [(vI del2_4)])),((aG 2),some (bV 3 Span.enc a.1)),(z,some (.cells 3 (Span.v e)))]:Hp) (by kernel_rfl) (aa (vB (!A)) (ah ?_))
     obtain ⟨k,f,c⟩:=bind_some c
     refine aP [(0,(vV (aG 2) 3 k.1)),(1,(.fn 58 [(.ref (aG 0) 0 0),(.ref (aG 1) 0 0)])),(5,(vI k.2)),(6,(vI a.2.2))] [((aG 0),some (.cells 1 [(vL eI del2_3)])),((aG 1),some (.cells 1 [(vI del2_4)])),((aG 2),some (bV 3 Span.enc k.1)),(z,some (.cells 3 (Span.v e)))] ?_ ?_
     ·rcases ak f with⟨o,f⟩|⟨o,f⟩
      ·refine aB rfl o (aj (aa (vV (aG 2) 3 a.1) (aa (vI a.2.1) (ay 0 3 il ft qE CP rfl rfl (.d (.agg (Span.enc e))) rfl wz ?_))))
       obtain ⟨_,x,f⟩:=bind_some f
       refine BU CL rfl rfl (jM x) (gK x) wz ?_
       obtain ⟨M,H,f⟩:=bind_some f
       refine PS 0 il ft 2 qE rfl rfl H e (stD_one rfl rfl (bX (nU _ _) (bX rfl (bX rfl rfl))) rfl rfl) wz (eU (v':=(vV (aG 2) 3 (a.1.set (0+(a.2.1).toNat) e))) 0 rfl (wI (by simp)) (eU (v':=(vV (aG 2) 3 (a.1.set (0+(a.2.1).toNat) e))) 17 rfl (wI (by simp)) (eU (v':=(vV (aG 2) 3 (a.1.set (0+(a.2.1).toNat) e))) 22 rfl (wI (by simp)) (eU (v':=(vV (aG 2) 3 (a.1.set (0+(a.2.1).toNat) e))) 30 rfl (wI (by simp)) (ah (av (aa (vI a.2.1) (aa (vI (w64 (a.2.1+1))) (aa (vI (w64 (a.2.1+1))) (ah ?_))))))))))
       obtain rfl:=af f
       exact cu
      ·refine aA rfl o (ax ?_)
       obtain rfl:=af f
       exact cu
     ·rintro ⟨⟩ _ K B t u
      refine aN _ t u (av (aa (vI a.2.2) (aa (vI (w64 (a.2.2+1))) (aa (vI (w64 (a.2.2+1))) (ah ?_)))))
      obtain rfl:=af c
      exact aU (m,(k.1,k.2,(w64 (a.2.2+1)))) j (ls_ _) rfl (aI rfl)
    ·refine aA rfl n (aS ?_)
     obtain rfl:=af c
     obtain rfl:=af j
     exact aV ((a.1,a.2.1,a.2.2)) rfl rfl (aI rfl)
  ·rintro a C K B t u
   subst C
   refine aN _ t u (aj (aa (vV (aG 2) 3 a.1) (aa (vI a.2.1) ?_)))
   obtain ⟨_,l,b⟩:=bind_some b
   refine Hd EE qE rfl rfl l wz (M8 (i:=2) 0 il ft (⟨none,(⟨0,0⟩:Window)⟩:Span) MB qE z76 rfl rfl rfl (by decide) rfl (tY l) rfl wz (eU (v':=(vV (aG 2) 3 (a.1.take ((a.2.1).toNat)++List.replicate (((a.1.length:Int)).toNat-(a.2.1).toNat) (⟨none,(⟨0,0⟩:Window)⟩:Span)++a.1.drop (((a.2.1).toNat)+(((a.1.length:Int)).toNat-(a.2.1).toNat))))) 0 rfl (wI (zW (tY l))) (eU (v':=(vV (aG 2) 3 (a.1.take ((a.2.1).toNat)++List.replicate (((a.1.length:Int)).toNat-(a.2.1).toNat) (⟨none,(⟨0,0⟩:Window)⟩:Span)++a.1.drop (((a.2.1).toNat)+(((a.1.length:Int)).toNat-(a.2.1).toNat))))) 36 rfl (wI (zW (tY l))) (ah (aj (aa (vV (aG 2) 3 (a.1.take ((a.2.1).toNat)++List.replicate (((a.1.length:Int)).toNat-(a.2.1).toNat) (⟨none,(⟨0,0⟩:Window)⟩:Span)++a.1.drop (((a.2.1).toNat)+(((a.1.length:Int)).toNat-(a.2.1).toNat)))) (aa (vI a.2.1) ?_)))))))
   obtain ⟨_,y,b⟩:=bind_some b
   refine KU EE qE rfl rfl y wz (aa (.vs (aG 2) 3 0 ((a.2.1).toNat)) (ah (wH_re (v':=(vV (aG 2) 3 ((a.1.take ((a.2.1).toNat)++List.replicate (((a.1.length:Int)).toNat-(a.2.1).toNat) (⟨none,(⟨0,0⟩:Window)⟩:Span)++a.1.drop (((a.2.1).toNat)+(((a.1.length:Int)).toNat-(a.2.1).toNat))).take ((a.2.1).toNat)))) 4 rfl (vV_take (tY y)) (wH_shr 2 ((a.2.1).toNat) rfl ?_))))
   obtain rfl:=af b
   exact aC (Ar (.inr rfl) [(vV (aG 2) 3 ((a.1.take ((a.2.1).toNat)++List.replicate (((a.1.length:Int)).toNat-(a.2.1).toNat) (⟨none,(⟨0,0⟩:Window)⟩:Span)++a.1.drop (((a.2.1).toNat)+(((a.1.length:Int)).toNat-(a.2.1).toNat))).take ((a.2.1).toNat)))] _ [0,1,2] [aG 0,aG 1,aG 2] ⟨rfl,trivial⟩ (.cons (GJ _) (.nil)) (by kernel_rfl) ⟨(by kernel_rfl),⟨(by kernel_rfl),⟨(by kernel_rfl),trivial⟩⟩⟩ (by decide) (by kernel_rfl))
theorem jX {c:(List Span)} {j:Span->Option Bool} {r:Int} {gid:FuncId} {caps:List V} {Sin:List Box} (hfn:∀x0 r,j x0=some r->FnM Tryz.prog gid ([(.d (.agg (Span.enc x0)))]++caps) Sin (vB r) (Sin.map some)) (hbF:aJ Tryz.prog gid=true) (hcapF:caps.flatMap frz=[]/\caps.map co0=caps) (hokF:okL Sin.length caps=true) (hsF:∀b∈Sin,b.ok Sin.length=true) (hmF:∀b∈Sin,b.mut=true) (h:bU c j=some r) :
  FnM Tryz.prog 88 [(vL Span.enc c),(.fn gid caps)] Sin (vI r) (Sin.map some):=by
 refine FnM.of_wH ⟨Tryz.prog,19,[],[]⟩ rfl Tryz.func88 rfl rfl (lb_ rfl) (by kernel_rfl) ?_
 unfold bU at h
 refine aj (aa (vI 0) (ah (au (aj (aa (vL Span.enc c) (bS EE rfl wz (aa (vI 0) (ah ?_))))))))
 obtain ⟨v,m,h⟩:=bind_some h
 obtain ⟨o,m⟩:=aW m
 refine cz (λ(i:Unit)=>[]) (λ(i:Unit)=>(p9 0 Sin)) (λ(a:Nat)=>(λ(i:Unit)=>[(0,(vL Span.enc c)),(1,(.fn gid caps)),(7,(vI (c.length:Int))),(8,(vI (a:Int)))])) (λk x s=>dW j k x s) v c () m rfl (xB _) ?_ ?_
 ·rintro ⟨a,n,i⟩ ⟨g,f⟩
  dsimp only at g f
  cases n with
  | nil =>
   obtain rfl:=af g
   refine aj (aa (vB (decide ((a:Int)<(c.length:Int)))) (ah ?_))
   refine au (aA rfl (drop_nil f) (aS ?_))
   exact aV (i) rfl rfl (xB _)
  | cons w n =>
   obtain ⟨z,e,g⟩:=bind_some g
   refine aj (aa (vB (decide ((a:Int)<(c.length:Int)))) (ah ?_))
   refine au (aB rfl (bv f) (ax ?_))
   unfold dW at e
   refine au (aM (aj (aa (vI (a:Int)) (aa (vI (a:Int)) (ah (aj (aa (.fn gid caps) (aa (vL Span.enc c) (aa (vI (a:Int)) (dR CL rfl rfl (bJ f) rfl wz (bN qE CP rfl (.d (.agg (Span.enc w))) rfl wz ?_)))))))))))
   obtain ⟨A,u,e⟩:=bind_some e
   refine J7 (hfn _ _ u) rfl hbF rfl rfl hcapF hokF hsF hmF rfl wz rfl (ah ?_)
   rcases ak e with⟨l,e⟩|⟨l,e⟩
   ·refine aB rfl l (aj (aa (vI (a:Int)) (aa (vI (a:Int)) (ah ?_))))
    obtain rfl:=af e
    obtain rfl:=af g
    obtain rfl:=af h
    exact aC (Qz hsF (.inr rfl) [(vI (a:Int))] ⟨rfl,trivial⟩ rfl rfl rfl)
   ·refine aA rfl l (ax (av (dX (bD f o) wz rfl (aa (vI ((a+1:Nat):Int)) (ah ?_)))))
    obtain rfl:=af e
    exact aU (a+1,n,()) ⟨g,aQ f⟩ (ls_ _) rfl (xB _)
 ·rintro i p B y q t
  subst p
  refine aN _ q t (aj (aa (vI (-1)) (ah ?_)))
  obtain rfl:=af h
  exact aC (Qz hsF (.inr rfl) [(vI (-1))] ⟨rfl,trivial⟩ rfl rfl rfl)
theorem jD {del2_3:(List Int)} {del2_4:Int} {r:Unit} (b:bP del2_3 del2_4=some r) :
  FnM Tryz.prog 57 [.nil,(.fn 58 [(.ref (aG 0) 0 0),(.ref (aG 1) 0 0)])] [(.cells 1 [(vL eI del2_3)]),(.cells 1 [(vI del2_4)])] .nil [some (.cells 1 [(vL eI del2_3)]),some (.cells 1 [(vI del2_4)])]:=by
 refine FnM.of_wH ⟨Tryz.prog,42,[],[]⟩ rfl Tryz.func57 rfl rfl (lb_ rfl) (by kernel_rfl) ?_
 unfold bP at b
 refine aj (aa .nil (ah (aj (aa .nil (aa (.fn 58 [(.ref (aG 0) 0 0),(.ref (aG 1) 0 0)]) ?_)))))
 obtain ⟨a,m,b⟩:=bind_some b
 refine fu 0 [0,1] il ft (jX (gid:=58) (caps:=[.ref (aG 0) 0 0,.ref (aG 1) 0 0]) (Sin:=[(.cells 1 [(vL eI del2_3)]),(.cells 1 [(vI del2_4)])]) (λ_ _ h_=>mg h_) hb58 ⟨rfl,rfl⟩ (by kernel_rfl) (QP (by kernel_rfl)) (Nl (by kernel_rfl)) m) rfl hb88 rfl (by kernel_rfl) (by kernel_rfl) (by kernel_rfl) (by kernel_rfl) (by kernel_rfl) (by kernel_rfl) (by kernel_rfl) (by decide) (by kernel_rfl) wz (vI a) (by kernel_rfl) ([((aG 0),some (.cells 1 [(vL eI del2_3)])),((aG 1),some (.cells 1 [(vI del2_4)]))]:Hp) (by kernel_rfl) (aa (vI a) (ah (au (aj (aa (vI a) (aa (vB (a==(-1))) (ah ?_)))))))
 rcases ak b with⟨g,b⟩|⟨g,b⟩
 ·refine aB rfl g (aj (aa .nil (aa .nil (ah ?_))))
  obtain rfl:=af b
  exact aC (Ar (.inr rfl) [.nil] _ [0,1] [aG 0,aG 1] ⟨rfl,trivial⟩ (.cons (GJ _) (.nil)) (by kernel_rfl) ⟨(by kernel_rfl),⟨(by kernel_rfl),trivial⟩⟩ (by decide) (by kernel_rfl))
 ·refine aA rfl g (ax (au (aj (aa (vI a) (aa (vI (w64 (a+1))) (aa (vI (w64 (a+1))) (ah ?_)))))))
  obtain ⟨o,h,b⟩:=bind_some b
  obtain ⟨n,h⟩:=dJ h
  refine gq (λ(e:Unit)=>[(0,.nil),(5,(vI a))]) (λ(e:Unit)=>[((aG 0),some (.cells 1 [(vL eI del2_3)])),((aG 1),some (.cells 1 [(vI del2_4)]))]) (λ(i:Nat)=>(λ(e:Unit)=>[(0,.nil),(1,(.fn 58 [(.ref (aG 0) 0 0),(.ref (aG 1) 0 0)])),(5,(vI a)),(6,(vI (w64 (a+1))))])) (λs=>dG a s) o n () h rfl (aI rfl) ?_ ?_
  ·rintro ⟨i,e⟩ d
   dsimp only at d
   cases i with
   | zero=>cases d
   | succ i =>
    obtain ⟨q,c,d⟩:=bind_some d
    unfold dG at c
    refine au (aj (aa (vI (w64 (a+1))) (aa .nil (GN EE rfl wz (aa (vB (decide ((w64 (a+1))<0))) (ah ?_))))))
    rcases ak c with⟨f,c⟩|⟨f,c⟩
    ·refine aB rfl f (ax (au (aM (aj (aa .nil (aa (vI (w64 (a+1))) ?_))))))
     cases c
    ·refine aA rfl f (aS ?_)
     obtain rfl:=af c
     obtain rfl:=af d
     exact aV (()) rfl rfl (aI rfl)
  ·rintro e j t p k l
   subst j
   refine aN _ k l (aj (aa .nil (aa (vI a) ?_)))
   cases b
theorem jS {b:(List Span)} {r:Span} (e:bG b=some r) :
  FnM Tryz.prog 59 [(dV (aG 0) 3 b),(.fn 52 [])] (([]:List Box)++gI 3 Span.enc b) (.d (.agg (Span.enc r))) (([]:List Box).map some++gT b (gB 3 Span.enc b)):=by
 refine FnM.of_wHv ⟨Tryz.prog,33,[],[]⟩ rfl Tryz.func59 rfl rfl (lb_ rfl) (by kernel_rfl) ?_
 unfold bG at e
 refine aj (bZ 0 (.inl rfl) z76 rfl wz (λg=>ah (au (aj (aa (dV (aG 0) 3 b) (BJ EE rfl wz (aa (vB (decide ((b.length:Int)<1))) (ah ?_))))))))
 obtain ⟨O,k,e⟩:=bind_some e
 refine aP [(0,(dV (aG 0) 3 b)),(1,(.fn 52 [])),(4,(.ref g 0 0))] [((aG 0),gB 3 Span.enc b),(g,some (.cells 3 [(.d .nilp),(vI 0),(vI 0)]))] ?_ ?_
 ·rcases ak k with⟨u,k⟩|⟨u,k⟩
  ·refine aB rfl u (av ?_)
   cases k
  ·refine aA rfl u (ax ?_)
   obtain rfl:=af k
   exact cu
 ·rintro ⟨⟩ _ C x l m
  refine aN _ l m (aj (aa (dV (aG 0) 3 b) ?_))
  obtain ⟨_,B,e⟩:=bind_some e
  refine qC CL rfl rfl (jM B) (gK B) wz ?_
  obtain ⟨j,J,e⟩:=bind_some e
  refine nI 0 0 il ft qE CP rfl rfl J (.d (.agg (Span.enc j))) rfl wz (bZ 0 (.inl rfl) z76 rfl wz (λn=>dY 0 il ft 2 qE rfl rfl (Span.v j) (Aa rfl (bX (nU _ _) (bX rfl (bX rfl rfl))) rfl rfl) wz (ah (au (aj (aa (vI 1) (ah ?_)))))))
  obtain ⟨L,w,e⟩:=bind_some e
  obtain ⟨K,w⟩:=dJ w
  refine gq (λ(a:Int×(Option Entry)×Int×Int)=>[(4,(.ref g 0 0)),(5,(.ref n 0 0))]) (λ(a:Int×(Option Entry)×Int×Int)=>[((aG 0),gB 3 Span.enc b),(g,some (.cells 3 [(.d .nilp),(vI 0),(vI 0)])),(n,some (.cells 3 [(.d (dP Entry.enc a.2.1)),(vI a.2.2.1),(vI a.2.2.2)]))]) (λ(p:Nat)=>(λ(a:Int×(Option Entry)×Int×Int)=>[(0,(dV (aG 0) 3 b)),(1,(.fn 52 [])),(4,(.ref g 0 0)),(5,(.ref n 0 0)),(6,(vI a.1))])) (λs=>bA b s) L K (1,j.f_e,j.f_time.From,j.f_time.To) w rfl (aI rfl) ?_ ?_
  ·rintro ⟨p,a⟩ h
   dsimp only at h
   cases p with
   | zero=>cases h
   | succ p =>
    obtain ⟨N,c,h⟩:=bind_some h
    unfold bA at c
    refine au (aj (aa (vI a.1) (aa (dV (aG 0) 3 b) (BJ EE rfl wz (aa (vB (decide (a.1<(b.length:Int)))) (ah ?_))))))
    rcases ak c with⟨q,c⟩|⟨q,c⟩
    ·refine aB rfl q (ax (au (aM (au (bI (aa (.fn 52 []) (aa (dV (aG 0) 3 b) (aa (vI a.1) ?_))))))))
     obtain ⟨_,z,c⟩:=bind_some c
     refine qC CL rfl rfl (jM z) (gK z) wz ?_
     obtain ⟨E,H,c⟩:=bind_some c
     refine nI 4 0 (.inr (by kernel_rfl)) (λ_ _ ag=>trivial) qE CP rfl rfl H (.d (.agg (Span.enc E))) rfl wz (ay 5 2 (.inr (by kernel_rfl)) (λ_ _ ag=>⟨.inl ⟨rfl,rfl⟩,trivial⟩) qE CP rfl rfl (.d (.agg (Span.enc (⟨a.2.1,(⟨a.2.2.1,a.2.2.2⟩:Window)⟩:Span)))) rfl wz ?_)
     obtain ⟨M,G,c⟩:=bind_some c
     refine aF (tq G) rfl hb52 rfl rfl rfl rfl wz (aa (vB (decide (M<0))) (ah ?_))
     obtain ⟨i,f,c⟩:=bind_some c
     refine aP [(0,(dV (aG 0) 3 b)),(1,(.fn 52 [])),(4,(.ref g 0 0)),(5,(.ref n 0 0)),(6,(vI a.1))] [((aG 0),gB 3 Span.enc b),(g,some (.cells 3 [(.d .nilp),(vI 0),(vI 0)])),(n,some (.cells 3 [(.d (dP Entry.enc i.1)),(vI i.2.1),(vI i.2.2)]))] ?_ ?_
     ·rcases ak f with⟨t,f⟩|⟨t,f⟩
      ·refine aB rfl t (av (aa (dV (aG 0) 3 b) (aa (vI a.1) ?_)))
       obtain ⟨_,A,f⟩:=bind_some f
       refine qC CL rfl rfl (jM A) (gK A) wz ?_
       obtain ⟨y,I,f⟩:=bind_some f
       refine nI 0 0 il ft qE CP rfl rfl I (.d (.agg (Span.enc y))) rfl wz (dY 0 il ft 2 qE rfl rfl (Span.v y) (Aa rfl (bX (nU _ _) (bX rfl (bX rfl rfl))) rfl rfl) wz (ah ?_))
       obtain rfl:=af f
       exact cu
      ·refine aA rfl t (ax ?_)
       obtain rfl:=af f
       exact cu
     ·rintro ⟨⟩ _ C x l m
      refine aN _ l m (av (aa (vI a.1) (aa (vI (w64 (a.1+1))) (aa (vI (w64 (a.1+1))) (ah ?_)))))
      obtain rfl:=af c
      exact aU (p,((w64 (a.1+1)),i.1,i.2.1,i.2.2)) h (ls_ _) rfl (aI rfl)
    ·refine aA rfl q (aS ?_)
     obtain rfl:=af c
     obtain rfl:=af h
     exact aV ((a.1,a.2.1,a.2.2.1,a.2.2.2)) rfl rfl (aI rfl)
  ·rintro a F C x l m
   subst F
   refine aN _ l m (aj (ay 0 2 il ft qE CP rfl rfl (.d (.agg (Span.enc (⟨a.2.1,(⟨a.2.2.1,a.2.2.2⟩:Window)⟩:Span)))) rfl wz (dY 0 il ft 1 qE rfl rfl [(.d (dP Entry.enc a.2.1)),(vI a.2.2.1),(vI a.2.2.2)] (Aa rfl (bX (nU _ _) (bX rfl (bX rfl rfl))) rfl rfl) wz (ah ?_))))
   obtain rfl:=af e
   exact aC (Hz (bs:=([]:List Box)) (os:=([]:List Box)) (xs:=b) (o:=gB 3 Span.enc b) (.inr rfl) [(.d (.agg (Span.enc (⟨a.2.1,(⟨a.2.2.1,a.2.2.2⟩:Window)⟩:Span))))] ⟨⟨1,_,_,_,_,_,_,_,rfl,rfl,qE,CP,rfl⟩,trivial⟩ rfl rfl rfl rfl rfl (by kernel_rfl) rC rfl)
theorem vg {c:(List Slot_)} {r:(List Slot_)} (h:jA c=some r) :
  FnM Tryz.prog 12 [(dV (aG 0) 3 c)] (([]:List Box)++gI 3 Slot_.enc c) (.tup []) (([]:List Box).map some++gT c (gB 3 Slot_.enc r)):=by
 refine FnM.of_wHv ⟨Tryz.prog,14,[],[]⟩ rfl Tryz.func12 rfl rfl (lb_ rfl) (by kernel_rfl) ?_
 unfold jA at h
 refine aj (bZ 0 (.inl rfl) z49 rfl wz (λl=>ah (aj (aa (dV (aG 0) 3 c) (BJ un42 rfl wz (aa (vI 0) (ah ?_)))))))
 obtain ⟨u,i,h⟩:=bind_some h
 obtain ⟨n,i⟩:=aW i
 refine cz (λ(a:List Slot_)=>[]) (λ(a:List Slot_)=>[((aG 0),gB 3 Slot_.enc a),(l,some (.cells 3 [(vI 0),(vI 0),(vS (⟨#[]⟩:ByteArray))]))]) (λ(b:Nat)=>(λ(a:List Slot_)=>[(0,(dV (aG 0) 3 a)),(2,(.ref l 0 0)),(5,(vI (c.length:Int))),(6,(vI (b:Int)))])) (λk x s=>iJ k x s) u (List.range ((c.length:Int)).toNat) c i rfl (aI rfl) ?_ ?_
 ·rintro ⟨b,j,a⟩ ⟨g,f⟩
  dsimp only at g f
  cases j with
  | nil =>
   obtain rfl:=af g
   refine aj (aa (vB (decide ((b:Int)<(c.length:Int)))) (ah ?_))
   refine au (aA rfl (nO f) (aS ?_))
   exact aV (a) rfl rfl (aI rfl)
  | cons B j =>
   obtain ⟨w,e,g⟩:=bind_some g
   refine aj (aa (vB (decide ((b:Int)<(c.length:Int)))) (ah ?_))
   refine au (aB rfl (lu f) (ax ?_))
   unfold iJ at e
   refine au (aM (aj (aa (vI (b:Int)) (aa (vI (b:Int)) (ah (av (aa (dV (aG 0) 3 a) (aa (vI (b:Int)) (ay 0 1 il ft sz49 ag49 rfl rfl (.d (.agg (Slot_.enc (⟨(⟨0,0⟩:Window),(⟨#[]⟩:ByteArray)⟩:Slot_)))) rfl wz ?_)))))))))
   obtain ⟨_,m,e⟩:=bind_some e
   refine qC es42 rfl rfl (jM m) (gK m) wz ?_
   obtain ⟨y,t,e⟩:=bind_some e
   refine A7 0 il ft 0 sz49 rfl rfl t (⟨(⟨0,0⟩:Window),(⟨#[]⟩:ByteArray)⟩:Slot_) rfl wz (eU (v':=(dV (aG 0) 3 (a.set (0+((b:Int)).toNat) (⟨(⟨0,0⟩:Window),(⟨#[]⟩:ByteArray)⟩:Slot_)))) 0 rfl (lH (by simp)) (eU (v':=(dV (aG 0) 3 (a.set (0+((b:Int)).toNat) (⟨(⟨0,0⟩:Window),(⟨#[]⟩:ByteArray)⟩:Slot_)))) 9 rfl (lH (by simp)) (ah (av (dX (nR f n) wz rfl (aa (vI ((b+1:Nat):Int)) (ah ?_)))))))
   obtain rfl:=af e
   exact aU (b+1,j,(a.set (0+((b:Int)).toNat) (⟨(⟨0,0⟩:Window),(⟨#[]⟩:ByteArray)⟩:Slot_))) ⟨g,aQ f⟩ (ls_ _) rfl (aI rfl)
 ·rintro a p A v z q
  subst p
  show uz _ _ _ _ _ _ _ _
  obtain rfl:=af h
  exact xU (H0:=([((aG 0),gB 3 Slot_.enc a),(l,some (.cells 3 [(vI 0),(vI 0),(vS (⟨#[]⟩:ByteArray))]))]:Hp)) (sl':=envS []) q (Hz (bs:=([]:List Box)) (os:=([]:List Box)) (xs:=c) (o:=gB 3 Slot_.enc a) (.inl rfl) [] trivial rfl rfl rfl rfl rfl (by kernel_rfl) rC rfl)
theorem y5 {W:(List Entry)} {t:Player} {g:Window} {r:(List Slot_)} (w:kS W t g=some r) :
  FnM Tryz.prog 31 [(vL Entry.enc W),(.d (.agg (Player.enc t))),(.d (.agg (Window.enc g)))] [] (gV (aG 0) 3 r) (([]:List Box).map some++gO 3 Slot_.enc r):=by
 refine FnM.of_wH ⟨Tryz.prog,111,[],[]⟩ rfl Tryz.func31 rfl rfl (lb_ rfl) (by kernel_rfl) ?_
 unfold kS at w
 refine aj (dQ 0 (.inl rfl) (Player.v t) rfl rfl wz (λE=>dQ 0 (.inl rfl) [(vI g.From),(vI g.To)] rfl rfl wz (λF=>aa .nil (ah (aj (aa (vL Entry.enc W) (ay 0 0 il ft yM Bg rfl rfl (.d (.agg (Player.enc t))) rfl wz (ay 0 1 il ft mM tK rfl rfl (.d (.agg (Window.enc g))) rfl wz ?_))))))))
 obtain ⟨Ö,Þ,w⟩:=bind_some w
 refine EW [] (uZ Þ) rfl hb50 rfl (by kernel_rfl) (by kernel_rfl) (by kernel_rfl) (by kernel_rfl) (by kernel_rfl) rfl (by decide) (by kernel_rfl) wz ([(E,some (.cells 4 (Player.v t))),(F,some (.cells 2 [(vI g.From),(vI g.To)]))]:Hp) (λ_=>by kernel_rfl) (λj=>aa (gV j 3 Ö) (ah (aj (aa (gV j 3 Ö) ?_))))
 obtain ⟨h,Ú,w⟩:=bind_some w
 obtain ⟨_,M,w⟩:=bind_some w
 replace M:=qo M
 refine oN 0 [] 2 0 il ft (og Ú) rfl hb51 rfl rfl rfl (by kernel_rfl) rfl (.inl rfl) rfl (by kernel_rfl) (by kernel_rfl) (by kernel_rfl) (by kernel_rfl) rfl (by decide) (by kernel_rfl) rC (Ay M) wz ([(E,some (.cells 4 (Player.v t))),(F,some (.cells 2 [(vI g.From),(vI g.To)])),(j,gB 3 Span.enc h)]:Hp) (by kernel_rfl) (eU (v':=(gV j 3 h)) 18 rfl (ja M.symm) (eU (v':=(gV j 3 h)) 19 rfl (ja M.symm) (eU (v':=(gV j 3 h)) 7 rfl (ja M.symm) (ah (aj (aa (vL Entry.enc W) (ay 0 0 il ft yM Bg rfl rfl (.d (.agg (Player.enc t))) rfl wz (ay 0 1 il ft mM tK rfl rfl (.d (.agg (Window.enc g))) rfl wz ?_))))))))
 obtain ⟨o,Û,w⟩:=bind_some w
 refine aF (Cb Û) rfl hb56 rfl rfl rfl rfl wz (bZ 0 (.inl rfl) z22 rfl wz (λq=>dY 0 il ft 3 sF rfl rfl [(vL eI o)] rfl wz (ah (aj (aa .nil (ah (aj (aa .nil (ah (aj (aa (vI 0) (ah (au (aj (bZ 0 (.inl rfl) z3 rfl wz (λë=>dY 0 il ft 4 sz3 rfl rfl [(vI 0)] rfl wz (ah (iO (λì=>iO (λí => ?_))))))))))))))))))))
 obtain ⟨ñ,È,w⟩:=bind_some w
 obtain ⟨ð,È⟩:=dJ È
 refine zh (σ:=(List Slot_)×(List Span)×Int×Int) (N:=Nm×Nm×Nm×Bool) (λp=>(λ(a:(List Slot_)×(List Span)×Int×Int) (l:Nm) (f:Nm) (H:Nm) (e:Bool)=>([(9,(gV f 3 a.1))]:SL_)) p.1 p.2.1 p.2.2.1 p.2.2.2.1 p.2.2.2.2) (λp=>(λ(a:(List Slot_)×(List Span)×Int×Int) (l:Nm) (f:Nm) (H:Nm) (e:Bool)=>([(E,some (.cells 4 (Player.v t))),(F,some (.cells 2 [(vI g.From),(vI g.To)])),(j,gB 3 Span.enc h),(q,some (.cells 1 [(vL eI o)])),(l,some (.cells 1 [(vI a.2.2.2)])),(f,gB 3 Slot_.enc a.1),(H,kB e 3 Span.enc a.2.1)]:Hp)) p.1 p.2.1 p.2.2.1 p.2.2.2.1 p.2.2.2.2) (λ(T:Nat)=>(λp=>(λ(a:(List Slot_)×(List Span)×Int×Int) (l:Nm) (f:Nm) (H:Nm) (e:Bool)=>([(7,(gV j 3 h)),(8,(.ref q 0 0)),(9,(gV f 3 a.1)),(10,(kV e H 3 a.2.1)),(11,(vI a.2.2.1)),(12,(.ref l 0 0))]:SL_)) p.1 p.2.1 p.2.2.1 p.2.2.2.1 p.2.2.2.2)) (λs=>fV o h s) ñ ð ((([]:List Slot_),([]:List Span),0,0),ë,ì,í,false) È rfl (aI rfl) ?_ ?_
 ·rintro ⟨T,a,l,f,H,e⟩ K
  dsimp only at K
  cases T with
  | zero=>cases K
  | succ T =>
   obtain ⟨Ù,m,K⟩:=bind_some K
   unfold fV at m
   refine au (aj (ay 0 4 il ft sz3 ag3 rfl rfl (vI a.2.2.2) rfl wz (aa (vI (w64 (a.2.2.2+1))) (ay 0 3 il ft sF xE rfl rfl (vL eI o) rfl wz (bS sN rfl wz (aa (vB (decide ((w64 (a.2.2.2+1))<(o.length:Int)))) (ah ?_)))))))
   rcases ak m with⟨Â,m⟩|⟨Â,m⟩
   ·refine aB rfl Â (ax (au (aM (au ?_))))
    obtain ⟨ò,É,m⟩:=bind_some m
    obtain ⟨ï,É⟩:=dJ É
    refine zh (σ:=(List Span)×Int) (N:=Nm) (λp=>(λ(b:(List Span)×Int) (c:Nm)=>([(7,(gV j 3 h)),(8,(.ref q 0 0)),(9,(gV f 3 a.1)),(10,(kV e c 3 b.1)),(11,(vI b.2)),(12,(.ref l 0 0))]:SL_)) p.1 p.2) (λp=>(λ(b:(List Span)×Int) (c:Nm)=>([(E,some (.cells 4 (Player.v t))),(F,some (.cells 2 [(vI g.From),(vI g.To)])),(j,gB 3 Span.enc h),(q,some (.cells 1 [(vL eI o)])),(l,some (.cells 1 [(vI a.2.2.2)])),(f,gB 3 Slot_.enc a.1),(c,kB e 3 Span.enc b.1)]:Hp)) p.1 p.2) (λ(U:Nat)=>(λp=>(λ(b:(List Span)×Int) (c:Nm)=>([(7,(gV j 3 h)),(8,(.ref q 0 0)),(9,(gV f 3 a.1)),(10,(kV e c 3 b.1)),(11,(vI b.2)),(12,(.ref l 0 0))]:SL_)) p.1 p.2)) (λs=>fU h o a s) ò ï ((a.2.1,a.2.2.1),H) É rfl (aI rfl) ?_ ?_
    ·rintro ⟨U,b,c⟩ L
     dsimp only at L
     cases U with
     | zero=>cases L
     | succ U =>
      obtain ⟨Ù,u,L⟩:=bind_some L
      unfold fU at u
      refine au (au ?_)
      obtain ⟨ô,z,u⟩:=bind_some u
      refine aP [(7,(gV j 3 h)),(8,(.ref q 0 0)),(9,(gV f 3 a.1)),(10,(kV e c 3 b.1)),(11,(vI b.2)),(12,(.ref l 0 0)),(48,(vB ô))] [(E,some (.cells 4 (Player.v t))),(F,some (.cells 2 [(vI g.From),(vI g.To)])),(j,gB 3 Span.enc h),(q,some (.cells 1 [(vL eI o)])),(l,some (.cells 1 [(vI a.2.2.2)])),(f,gB 3 Slot_.enc a.1),(c,kB e 3 Span.enc b.1)] ?_ ?_
      ·refine bI (aa (vI b.2) (aa (gV j 3 h) (BC EE rfl wz (aa (vB (decide (b.2<(h.length:Int)))) ?_))))
       rcases ak z with⟨Ã,z⟩|⟨Ã,z⟩
       ·refine aD rfl Ã wz (aK (gV j 3 h) wa rfl (aK (vI b.2) wa rfl ?_))
        obtain ⟨_,Ð,z⟩:=bind_some z
        refine uw CL rfl rfl (jM Ð) (gK Ð) wa (aH Bf rfl 1 rfl wa (aH jB rfl 1 rfl wa ?_))
        obtain ⟨À,à,z⟩:=bind_some z
        refine nI 10 2 (.inr (by kernel_rfl)) (λ_ _ ag=>trivial) sz3 ag3 rfl rfl à (vI À.f_time.From) rfl wa (ay 11 3 (.inr (by kernel_rfl)) (λ_ _ ag=>⟨.inl ⟨rfl,rfl⟩,trivial⟩) sF xE rfl rfl (vL eI o) rfl wa (ay 12 4 (.inr (by kernel_rfl)) (λ_ _ ag=>⟨.inl ⟨rfl,rfl⟩,⟨.inl ⟨rfl,rfl⟩,trivial⟩⟩) sz3 ag3 rfl rfl (vI a.2.2.2) rfl wa ?_))
        obtain ⟨Í,á,z⟩:=bind_some z
        refine dR ko rfl rfl á rfl wa (bN sz3 ag3 rfl (vI Í) rfl wa (aK (vB (decide (À.f_time.From<=Í))) wa rfl (aa (vB (decide (À.f_time.From<=Í))) (ah ?_))))
        obtain rfl:=af z
        exact cu
       ·refine aD rfl Ã wz (ae (ae (ae (ae (ae (ae (ae (ae (ae (ae (ae (aa (vB false) (ah ?_)))))))))))))
        obtain rfl:=af z
        exact cu
      ·rintro ⟨⟩ _ R P B C
       refine aN _ B C ?_
       rcases ak u with⟨Ä,u⟩|⟨Ä,u⟩
       ·refine aB rfl Ä (ax (au (aM (av (aa (kV e c 3 b.1) (aa (gV j 3 h) (aa (vI b.2) ?_)))))))
        obtain ⟨_,Ñ,u⟩:=bind_some u
        refine uw CL rfl rfl (jM Ñ) (gK Ñ) wz ?_
        obtain ⟨Ï,â,u⟩:=bind_some u
        refine nI 0 2 il ft qE CP rfl rfl â (.d (.agg (Span.enc Ï))) rfl wz (eP (([Ï]:List Span).map Span.enc) CL ez72 rfl (PY rfl rfl (bX (nU _ _) (bX rfl (bX rfl rfl))) rfl) rfl rfl rfl wz ?_)
        obtain ⟨Î,é,u⟩:=bind_some u
        refine MF 0 il ft (i:=6) MB MB qE z76 rfl (by decide) by76 (by decide) (λ_=>rfl) rfl rfl rfl é wz (λÔ=>aa (kV e Ô 3 Î) (ah (av (aa (vI b.2) (aa (vI (w64 (b.2+1))) (aa (vI (w64 (b.2+1))) (ah ?_)))))))
        obtain rfl:=af u
        exact aU (U,(Î,(w64 (b.2+1))),Ô) L (ls_ _) rfl (aI rfl)
       ·refine aA rfl Ä (aS ?_)
        obtain rfl:=af u
        obtain rfl:=af L
        exact aV ((b.1,b.2),c) rfl rfl (aI rfl)
    ·rintro ⟨b,c⟩ Ë R P B C
     subst Ë
     refine aN _ B C (aj (aa (kV e c 3 b.1) (aa (.fn 58 [(.ref q 0 0),(.ref l 0 0)]) ?_)))
     obtain ⟨k,Ü,m⟩:=bind_some m
     obtain ⟨_,Ê,m⟩:=bind_some m
     obtain ⟨_,Ý,m⟩:=bind_some m
     replace Ê:=leL_le Ê
     refine Ob [3,4] 6 0 (jE Ü) (jD Ý) Ê (λ_ _=>rfl) rfl hb57 rfl rfl (by kernel_rfl) (by kernel_rfl) (by kernel_rfl) rfl rfl (by kernel_rfl) (by kernel_rfl) (by kernel_rfl) (by kernel_rfl) rfl rfl (by decide) wz ([(E,some (.cells 4 (Player.v t))),(F,some (.cells 2 [(vI g.From),(vI g.To)])),(j,gB 3 Span.enc h),(q,some (.cells 1 [(vL eI o)])),(l,some (.cells 1 [(vI a.2.2.2)])),(f,gB 3 Slot_.enc a.1),(c,kB (e || !b.1.isEmpty) 3 Span.enc k)]:Hp) (by kernel_rfl) (aa (kV (e || !b.1.isEmpty) c 3 k) (ah (aj (aa (vS (⟨#[]⟩:ByteArray)) (ah (au (aj (aa (kV (e || !b.1.isEmpty) c 3 k) (h_lenk EE rfl wz (aa (vB (decide ((k.length:Int)>0))) (ah ?_)))))))))))
     obtain ⟨I,A,m⟩:=bind_some m
     refine aP [(7,(gV j 3 h)),(8,(.ref q 0 0)),(9,(gV f 3 a.1)),(10,(kV (e || !b.1.isEmpty) c 3 k)),(11,(vI b.2)),(12,(.ref l 0 0)),(13,(vS I))] [(E,some (.cells 4 (Player.v t))),(F,some (.cells 2 [(vI g.From),(vI g.To)])),(j,gB 3 Span.enc h),(q,some (.cells 1 [(vL eI o)])),(l,some (.cells 1 [(vI a.2.2.2)])),(f,gB 3 Slot_.enc a.1),(c,kB (e || !b.1.isEmpty) 3 Span.enc k)] ?_ ?_
     ·rcases ak A with⟨Å,A⟩|⟨Å,A⟩
      ·refine aB rfl Å (av (aa (kV (e || !b.1.isEmpty) c 3 k) ?_))
       obtain ⟨_,x,A⟩:=bind_some A
       replace x:=Mj x
       refine eU (v':=(gV c 3 k)) 10 rfl (Ec x) (eU (v':=(gV c 3 k)) 60 rfl (Ec x) (eU (v':=(gV c 3 k)) 61 rfl (Ec x) (eU (v':=(gV c 3 k)) 64 rfl (Ec x) (Io 6 rfl (kB_gB x) ?_))))
       obtain ⟨ó,ß,A⟩:=bind_some A
       refine oN 0 [] 6 0 il ft (jS ß) rfl hb59 rfl rfl rfl (by kernel_rfl) rfl (.inl rfl) rfl (by kernel_rfl) (by kernel_rfl) (by kernel_rfl) (by kernel_rfl) rfl (by decide) (by kernel_rfl) rC (Ay rfl) wz ([(E,some (.cells 4 (Player.v t))),(F,some (.cells 2 [(vI g.From),(vI g.To)])),(j,gB 3 Span.enc h),(q,some (.cells 1 [(vL eI o)])),(l,some (.cells 1 [(vI a.2.2.2)])),(f,gB 3 Slot_.enc a.1),(c,gB 3 Span.enc k)]:Hp) (by kernel_rfl) (eU (v':=(kV (e || !b.1.isEmpty) c 3 k)) 10 rfl (Ec x).symm (eU (v':=(kV (e || !b.1.isEmpty) c 3 k)) 60 rfl (Ec x).symm (eU (v':=(kV (e || !b.1.isEmpty) c 3 k)) 61 rfl (Ec x).symm (eU (v':=(kV (e || !b.1.isEmpty) c 3 k)) 64 rfl (Ec x).symm (Io (b':=kB (e || !b.1.isEmpty) 3 Span.enc k) 6 rfl (kB_gB x).symm (h_field fr76_0 rfl (.d (dP Entry.enc ó.f_e)) rfl wz ?_))))))
       obtain ⟨O,ã,A⟩:=bind_some A
       refine eU (v':=(.d (.ptr (Entry.enc O)))) 66 rfl (Aj (enc:=Entry.enc) (y:=O) ã) (aa (.d (.ptr (Entry.enc O))) (oJ sU rfl (Entry.enc O) rfl rfl wz (bN sz9 ag9 rfl (vS O.Key) rfl wz (aa (vS O.Key) (ah ?_)))))
       obtain rfl:=af A
       exact cu
      ·refine aA rfl Å (ax ?_)
       obtain rfl:=af A
       exact cu
     ·rintro ⟨⟩ _ R P B C
      refine aN _ B C (aj (aa (gV f 3 a.1) (BC un42 rfl wz (aa (vI (w64 ((a.1.length:Int)-1))) (aa (vI (w64 ((a.1.length:Int)-1))) (ah (au ?_)))))))
      obtain ⟨õ,G,m⟩:=bind_some m
      refine aP [(7,(gV j 3 h)),(8,(.ref q 0 0)),(9,(gV f 3 a.1)),(10,(kV (e || !b.1.isEmpty) c 3 k)),(11,(vI b.2)),(12,(.ref l 0 0)),(13,(vS I)),(14,(vI (w64 ((a.1.length:Int)-1)))),(83,(vB õ))] [(E,some (.cells 4 (Player.v t))),(F,some (.cells 2 [(vI g.From),(vI g.To)])),(j,gB 3 Span.enc h),(q,some (.cells 1 [(vL eI o)])),(l,some (.cells 1 [(vI a.2.2.2)])),(f,gB 3 Slot_.enc a.1),(c,kB (e || !b.1.isEmpty) 3 Span.enc k)] ?_ ?_
      ·refine av (aa (vI (w64 ((a.1.length:Int)-1))) (aa (vB (decide ((w64 ((a.1.length:Int)-1))>=0))) ?_))
       rcases ak G with⟨Æ,G⟩|⟨Æ,G⟩
       ·refine aD rfl Æ wz (aK (gV f 3 a.1) wa rfl (aK (vI (w64 ((a.1.length:Int)-1))) wa rfl ?_))
        obtain ⟨_,Ò,G⟩:=bind_some G
        refine uw es42 rfl rfl (jM Ò) (gK Ò) wa (aH pl49_1 rfl 2 rfl wa ?_)
        obtain ⟨Á,ä,G⟩:=bind_some G
        refine nI 0 5 il ft sz9 ag9 rfl rfl ä (vS Á.Entry) rfl wa (aK (vS I) wa rfl (aK (vB (sEq Á.Entry I)) wa rfl (aa (vB (sEq Á.Entry I)) (ah ?_))))
        obtain rfl:=af G
        exact cu
       ·refine aD rfl Æ wz (ae (ae (ae (ae (ae (ae (ae (aa (vB false) (ah ?_)))))))))
        obtain rfl:=af G
        exact cu
      ·rintro ⟨⟩ _ R P B C
       refine aN _ B C ?_
       obtain ⟨Ì,n,m⟩:=bind_some m
       refine lG (β:=Nm) (λ(Q:Nm)=>([(7,(gV j 3 h)),(8,(.ref q 0 0)),(9,(gV Q 3 Ì)),(10,(kV (e || !b.1.isEmpty) c 3 k)),(11,(vI b.2)),(12,(.ref l 0 0))]:SL_)) (λ(Q:Nm)=>([(E,some (.cells 4 (Player.v t))),(F,some (.cells 2 [(vI g.From),(vI g.To)])),(j,gB 3 Span.enc h),(q,some (.cells 1 [(vL eI o)])),(l,some (.cells 1 [(vI a.2.2.2)])),(Q,gB 3 Slot_.enc Ì),(c,kB (e || !b.1.isEmpty) 3 Span.enc k)]:Hp)) (λ_=>True) ?_ ?_
       ·rcases ak n with⟨Ç,n⟩|⟨Ç,n⟩
        ·refine aB rfl Ç (av (aa (gV f 3 a.1) (aa (vI (w64 ((a.1.length:Int)-1))) (ay 0 3 il ft sF xE rfl rfl (vL eI o) rfl wz (ay 0 4 il ft sz3 ag3 rfl rfl (vI a.2.2.2) rfl wz (aa (vI (w64 (a.2.2.2+1))) ?_))))))
         obtain ⟨X,å,n⟩:=bind_some n
         refine dR ko rfl rfl å rfl wz (bN sz3 ag3 rfl (vI X) rfl wz ?_)
         obtain ⟨_,Ó,n⟩:=bind_some n
         refine uw es42 rfl rfl (jM Ó) (gK Ó) wz (aH pl49_0 rfl 0 rfl wz (aH kz rfl 1 rfl wz ?_))
         obtain ⟨J,æ,n⟩:=bind_some n
         refine A7 0 il ft 5 sz3 rfl rfl æ (⟨(⟨J.Time.From,X⟩:Window),J.Entry⟩:Slot_) rfl wz (eU (v':=(gV f 3 (a.1.set (0+((w64 ((a.1.length:Int)-1))).toNat) (⟨(⟨J.Time.From,X⟩:Window),J.Entry⟩:Slot_)))) 9 rfl (ja (by simp)) (eU (v':=(gV f 3 (a.1.set (0+((w64 ((a.1.length:Int)-1))).toNat) (⟨(⟨J.Time.From,X⟩:Window),J.Entry⟩:Slot_)))) 84 rfl (ja (by simp)) (ah ?_)))
         obtain rfl:=af n
         exact aV f trivial rfl (aI rfl)
        ·refine aA rfl Ç (bI (aa (gV f 3 a.1) (ay 1 3 (.inr (by kernel_rfl)) (λ_ _ ag=>trivial) sF xE rfl rfl (vL eI o) rfl wz (ay 2 4 (.inr (by kernel_rfl)) (λ_ _ ag=>⟨.inl ⟨rfl,rfl⟩,trivial⟩) sz3 ag3 rfl rfl (vI a.2.2.2) rfl wz ?_))))
         obtain ⟨Y,ç,n⟩:=bind_some n
         refine dR ko rfl rfl ç rfl wz (bN sz3 ag3 rfl (vI Y) rfl wz (ay 5 3 (.inr (by kernel_rfl)) (λ_ _ ag=>⟨.inl ⟨rfl,rfl⟩,⟨.inl ⟨rfl,rfl⟩,trivial⟩⟩) sF xE rfl rfl (vL eI o) rfl wz (ay 6 4 (.inr (by kernel_rfl)) (λ_ _ ag=>⟨.inl ⟨rfl,rfl⟩,⟨.inl ⟨rfl,rfl⟩,⟨.inl ⟨rfl,rfl⟩,trivial⟩⟩⟩) sz3 ag3 rfl rfl (vI a.2.2.2) rfl wz (aa (vI (w64 (a.2.2.2+1))) ?_))))
         obtain ⟨Z,è,n⟩:=bind_some n
         refine dR ko rfl rfl è rfl wz (bN sz3 ag3 rfl (vI Z) rfl wz (aK (.d (.agg (Window.enc (⟨Y,Z⟩:Window)))) wz (by kernel_rfl) (aa (vS I) (aK (.d (.agg (Slot_.enc (⟨(⟨Y,Z⟩:Window),I⟩:Slot_)))) wz (by kernel_rfl) (eP (([(⟨(⟨Y,Z⟩:Window),I⟩:Slot_)]:List Slot_).map Slot_.enc) es42 ez42 rfl rfl rfl rfl rfl wz ?_)))))
         obtain ⟨Ø,ê,n⟩:=bind_some n
         refine kJ 14 (.inr (by kernel_rfl)) (λ_ _ ag=>⟨.inr (.inr (by kernel_rfl)),⟨.inr (.inr (by kernel_rfl)),⟨.inr (.inr (by kernel_rfl)),⟨.inr (.inr (by kernel_rfl)),trivial⟩⟩⟩⟩) (i:=5) el42 el42 sz49 z49 rfl (by decide) by49 (by decide) (λ_=>rfl) rfl rfl rfl ê wz (λÕ=>aa (gV Õ 3 Ø) (ah ?_))
         obtain rfl:=af n
         exact aV Õ trivial rfl (aI rfl)
       ·rintro Q _ R P B C
        refine aN _ B C (au (aj (ay 0 4 il ft sz3 ag3 rfl rfl (vI a.2.2.2) rfl wz (ah (av (bZ 0 (.inl rfl) z3 rfl wz (λî=>dY 0 il ft 7 sz3 rfl rfl [(vI a.2.2.2)] rfl wz (ah (av (ay 0 7 il ft sz3 ag3 rfl rfl (vI a.2.2.2) rfl wz (aa (vI (w64 (a.2.2.2+1))) (dY 0 il ft 7 sz3 rfl rfl [(vI (w64 (a.2.2.2+1)))] rfl wz (ah ?_)))))))))))))
        obtain rfl:=af m
        exact aU (T,(Ì,k,b.2,(w64 (a.2.2.2+1))),î,Q,c,(e || !b.1.isEmpty)) K (ls_ _) rfl (pre_is [0,1,2,3,7,5,6] (by decide) rfl)
   ·refine aA rfl Â (aS ?_)
    obtain rfl:=af m
    obtain rfl:=af K
    exact aV ((a.1,a.2.1,a.2.2.1,a.2.2.2),l,f,H,e) rfl rfl (aI rfl)
 ·rintro ⟨a,l,f,H,e⟩ Ë R P B C
  subst Ë
  refine aN _ B C (aj (aa (gV f 3 a.1) (aa (gV f 3 a.1) (ah ?_))))
  obtain rfl:=af w
  exact aC (Lt (outs:=([]:List Box)) (.inr rfl) 5 rfl rfl rfl (by kernel_rfl) (by kernel_rfl))
theorem zq {f:(List Entry)} {c:Player} {b:Window} {r:(List Slot_)×Int} (a:lc f c b=some r) :
  FnM Tryz.prog 11 [(vL Entry.enc f),(.d (.agg (Player.enc c))),(.d (.agg (Window.enc b)))] [] (vM [.int .i64 r.2] (gV (aG 0) 3 r.1)) (([]:List Box).map some++gO 3 Slot_.enc r.1):=by
 refine FnM.of_wH ⟨Tryz.prog,20,[],[]⟩ rfl Tryz.func11 rfl rfl (lb_ rfl) (by kernel_rfl) ?_
 unfold lc at a
 refine aj (dQ 0 (.inl rfl) (Player.v c) rfl rfl wz (λk=>dQ 0 (.inl rfl) [(vI b.From),(vI b.To)] rfl rfl wz (λl=>aa .nil (aa (vI 0) (ah (au (aj (aa (vL Entry.enc f) (ay 0 0 il ft yM Bg rfl rfl (.d (.agg (Player.enc c))) rfl wz (ay 0 1 il ft mM tK rfl rfl (.d (.agg (Window.enc b))) rfl wz ?_))))))))))
 obtain ⟨e,i,a⟩:=bind_some a
 refine aF (yP i) rfl hb30 rfl rfl rfl rfl wz (aa (vI e) (ah (aj (aa (vI e) (aa (vB (e != 0)) (ah ?_))))))
 rcases ak a with⟨g,a⟩|⟨g,a⟩
 ·refine aB rfl g (aj (aa (vI e) (aa .nil (aa (vI e) (ah (iO (λn => ?_)))))))
  obtain rfl:=af a
  exact aC (Ep (outs:=([]:List Box)) [.int .i64 e] (.inr rfl) 2 rfl ⟨rfl,trivial⟩ rfl rfl (by kernel_rfl) (by kernel_rfl))
 ·refine aA rfl g (ax (aj (aa (vL Entry.enc f) (ay 0 0 il ft yM Bg rfl rfl (.d (.agg (Player.enc c))) rfl wz (ay 0 1 il ft mM tK rfl rfl (.d (.agg (Window.enc b))) rfl wz ?_)))))
  obtain ⟨m,h,a⟩:=bind_some a
  refine EW [] (y5 h) rfl hb31 rfl (by kernel_rfl) (by kernel_rfl) (by kernel_rfl) (by kernel_rfl) (by kernel_rfl) rfl (by decide) (by kernel_rfl) wz ([(k,some (.cells 4 (Player.v c))),(l,some (.cells 2 [(vI b.From),(vI b.To)]))]:Hp) (λ_=>by kernel_rfl) (λj=>aa (gV j 3 m) (aa (vI 0) (ah ?_)))
  obtain rfl:=af a
  exact aC (Ep (outs:=([]:List Box)) [.int .i64 0] (.inr rfl) 2 rfl ⟨rfl,trivial⟩ rfl rfl (by kernel_rfl) (by kernel_rfl))
theorem yG {x0:Int} {r:ByteArray} (a:strconv_Itoa x0=some r) :
  FnM Tryz.prog 60 [(vI x0)] [] (vS r) [] :=
 itoa_ok Tryz.strconv_Itoa Mt a
theorem sH {x0:(List ByteArray)} {x1:ByteArray} {r:ByteArray} (a:strings_Join x0 x1=some r) :
  FnM Tryz.prog 61 [(vL eS x0),(vS x1)] [] (vS r) [] :=
 join_ok rfl Tryz.strings_Join_none Tryz.strings_Join a
theorem GA {c:(List Int)} {r:ByteArray} (e:rF c=some r) :
  FnM Tryz.prog 62 [(vL eI c)] [] (vS r) []:=by
 refine FnM.of_wH ⟨Tryz.prog,20,[],[]⟩ rfl Tryz.func62 rfl rfl (lb_ rfl) (by kernel_rfl) ?_
 unfold rF at e
 refine aj (aa (vS (⟨#[]⟩:ByteArray)) (ah (aj (aa .nil (ah (au (aj (aa (vL eI c) (bS sN rfl wz (aa (vI 0) (ah (iO (λB => ?_)))))))))))))
 obtain ⟨C,j,e⟩:=bind_some e
 obtain ⟨t,j⟩:=aW j
 refine gH (σ:=(List ByteArray)) (N:=Nm) (λp=>(λ(a:List ByteArray) (b:Nm)=>([(3,(gV b 1 a))]:SL_)) p.1 p.2) (λp=>(λ(a:List ByteArray) (b:Nm)=>([(b,gB 1 eS a)]:Hp)) p.1 p.2) (λ(g:Nat)=>(λp=>(λ(a:List ByteArray) (b:Nm)=>([(3,(gV b 1 a)),(6,(vL eI c)),(7,(vI (c.length:Int))),(8,(vI (g:Int)))]:SL_)) p.1 p.2)) (λk x s=>nG k x s) C c (([]:List ByteArray),B) j rfl (aI rfl) ?_ ?_
 ·rintro ⟨g,l,a,b⟩ ⟨h,d⟩
  dsimp only at h d
  cases l with
  | nil =>
   obtain rfl:=af h
   refine aj (aa (vB (decide ((g:Int)<(c.length:Int)))) (ah ?_))
   refine au (aA rfl (drop_nil d) (aS ?_))
   exact aV (a,b) rfl rfl (aI rfl)
  | cons m l =>
   obtain ⟨G,f,h⟩:=bind_some h
   refine aj (aa (vB (decide ((g:Int)<(c.length:Int)))) (ah ?_))
   refine au (aB rfl (bv d) (ax ?_))
   unfold nG at f
   refine au (aM (aj (dR ko rfl rfl (bJ d) rfl wz (bN sz3 ag3 rfl (vI m) rfl wz (aa (vI m) (ah (av (aa (gV b 1 a) (aa (vI m) ?_)))))))))
   obtain ⟨E,y,f⟩:=bind_some f
   refine aF (yG y) rfl hb60 rfl rfl rfl rfl wz (eP (([E]:List ByteArray).map eS) qW Gq rfl rfl rfl rfl rfl wz ?_)
   obtain ⟨n,A,f⟩:=bind_some f
   refine kJ 0 il ft (i:=0) Hy Hy sz9 z9 rfl (by decide) by9 (by decide) (λ_=>rfl) rfl rfl rfl A wz (λo=>aa (gV o 1 n) (ah (av (dX (bD d t) wz rfl (aa (vI ((g+1:Nat):Int)) (ah ?_))))))
   obtain rfl:=af f
   exact aU (g+1,l,n,o) ⟨h,aQ d⟩ (ls_ _) rfl (aI rfl)
 ·rintro ⟨a,b⟩ u H F v w
  subst u
  refine aN _ v w (au (jb 0 rfl (fC 3 0 rfl rfl (av (aa (vL eS a) ?_)))))
  obtain ⟨q,z,e⟩:=bind_some e
  refine aF (sH z) rfl hb61 rfl rfl rfl rfl wz (aa (vS q) (ah ?_))
  obtain rfl:=af e
  exact aC (aL [(vS q)] ⟨rfl,trivial⟩)
theorem AB {b:(List ByteArray)} {r:ByteArray} (a:uM b=some r) :
  FnM Tryz.prog 63 [(vL eS b)] [] (vS r) []:=by
 refine FnM.of_wH ⟨Tryz.prog,8,[],[]⟩ rfl Tryz.func63 rfl rfl (lb_ rfl) (by kernel_rfl) ?_
 unfold uM at a
 refine aj (aa (vS (⟨#[]⟩:ByteArray)) (ah (au (aj (aa (vL eS b) (bS yz rfl wz (aa (vB ((b.length:Int)==0)) (ah ?_))))))))
 rcases ak a with⟨c,a⟩|⟨c,a⟩
 ·refine aB rfl c (aj (aa (vS (⟨#[45]⟩:ByteArray)) (ah ?_)))
  obtain rfl:=af a
  exact aC (aL [(vS (⟨#[45]⟩:ByteArray))] ⟨rfl,trivial⟩)
 ·refine aA rfl c (ax (aj (aa (vL eS b) ?_)))
  obtain ⟨d,e,a⟩:=bind_some a
  refine aF (sH e) rfl hb61 rfl rfl rfl rfl wz (aa (vS d) (ah ?_))
  obtain rfl:=af a
  exact aC (aL [(vS d)] ⟨rfl,trivial⟩)
theorem wK {a:Entry} {r:ByteArray} (b:l7 a=some r) :
  FnM Tryz.prog 32 [(.d (.agg (Entry.enc a)))] [] (vS r) []:=by
 refine FnM.of_wH ⟨Tryz.prog,52,[],[]⟩ rfl Tryz.func32 rfl rfl (lb_ rfl) (by kernel_rfl) ?_
 unfold l7 at b
 refine aj (dQ 0 (.inl rfl) (Entry.v a) rfl rfl wz (λj=>aa (vS (⟨#[]⟩:ByteArray)) (ah (aj (aa .nil (ah (au (aj (aH pU rfl 7 rfl wz (ay 0 0 il ft sF xE rfl rfl (vL eI a.Except) rfl wz (bS sN rfl wz (aa (vI 0) (ah (iO (λM => ?_)))))))))))))))
 obtain ⟨O,o,b⟩:=bind_some b
 obtain ⟨E,o⟩:=aW o
 refine gH (σ:=(List ByteArray)) (N:=Nm) (λp=>(λ(c:List ByteArray) (e:Nm)=>([(1,(.ref j 0 0)),(3,(gV e 1 c))]:SL_)) p.1 p.2) (λp=>(λ(c:List ByteArray) (e:Nm)=>([(j,some (.cells 13 (Entry.v a))),(e,gB 1 eS c)]:Hp)) p.1 p.2) (λ(h:Nat)=>(λp=>(λ(c:List ByteArray) (e:Nm)=>([(1,(.ref j 0 0)),(3,(gV e 1 c)),(8,(vL eI a.Except)),(9,(vI (a.Except.length:Int))),(10,(vI (h:Int)))]:SL_)) p.1 p.2)) (λk x s=>nS k x s) O a.Except (([]:List ByteArray),M) o rfl (aI rfl) ?_ ?_
 ·rintro ⟨h,u,c,e⟩ ⟨l,f⟩
  dsimp only at l f
  cases u with
  | nil =>
   obtain rfl:=af l
   refine aj (aa (vB (decide ((h:Int)<(a.Except.length:Int)))) (ah ?_))
   refine au (aA rfl (drop_nil f) (aS ?_))
   exact aV (c,e) rfl rfl (aI rfl)
  | cons z u =>
   obtain ⟨W,g,l⟩:=bind_some l
   refine aj (aa (vB (decide ((h:Int)<(a.Except.length:Int)))) (ah ?_))
   refine au (aB rfl (bv f) (ax ?_))
   unfold nS at g
   refine au (aM (aj (dR ko rfl rfl (bJ f) rfl wz (bN sz3 ag3 rfl (vI z) rfl wz (aa (vI z) (ah (av (aa (gV e 1 c) (aa (vI z) ?_)))))))))
   obtain ⟨P,G,g⟩:=bind_some g
   refine aF (yG G) rfl hb60 rfl rfl rfl rfl wz (eP (([P]:List ByteArray).map eS) qW Gq rfl rfl rfl rfl rfl wz ?_)
   obtain ⟨A,L,g⟩:=bind_some g
   refine kJ 0 il ft (i:=1) Hy Hy sz9 z9 rfl (by decide) by9 (by decide) (λ_=>rfl) rfl rfl rfl L wz (λB=>aa (gV B 1 A) (ah (av (dX (bD f E) wz rfl (aa (vI ((h+1:Nat):Int)) (ah ?_))))))
   obtain rfl:=af g
   exact aU (h+1,u,A,B) ⟨l,aQ f⟩ (ls_ _) rfl (aI rfl)
 ·rintro ⟨c,e⟩ F U C q t
  subst F
  refine aN _ q t (aj (aa (vS (⟨#[111,110]⟩:ByteArray)) (ah (au (aj (aH CG rfl 12 rfl wz (ay 0 0 il ft sz4 ag4 rfl rfl (vB a.Gone) rfl wz (ah ?_))))))))
  obtain ⟨y,m,b⟩:=bind_some b
  refine aP [(1,(.ref j 0 0)),(3,(gV e 1 c)),(6,(vS y))] [(j,some (.cells 13 (Entry.v a))),(e,gB 1 eS c)] ?_ ?_
  ·rcases ak m with⟨n,m⟩|⟨n,m⟩
   ·refine aB rfl n (av (aa (vS (⟨#[103,111,110,101]⟩:ByteArray)) (ah ?_)))
    obtain rfl:=af m
    exact cu
   ·refine aA rfl n (ax ?_)
    obtain rfl:=af m
    exact cu
  ·rintro ⟨⟩ _ U C q t
   refine aN _ q t (au (jb 1 rfl (fC 3 1 rfl rfl (bI (aH sU rfl 0 rfl wz (ay 1 0 (.inr (by kernel_rfl)) (λ_ _ ag=>trivial) sz9 ag9 rfl rfl (vS a.Key) rfl wz (aH J8 rfl 1 rfl wz (ay 3 0 (.inr (by kernel_rfl)) (λ_ _ ag=>⟨.inl ⟨rfl,rfl⟩,trivial⟩) sz9 ag9 rfl rfl (vS a.Item) rfl wz (aH zL rfl 2 rfl wz (ay 5 0 (.inr (by kernel_rfl)) (λ_ _ ag=>⟨.inl ⟨rfl,rfl⟩,⟨.inl ⟨rfl,rfl⟩,trivial⟩⟩) sz3 ag3 rfl rfl (vI a.Version) rfl wz (aH yf rfl 3 rfl wz (ay 7 0 (.inr (by kernel_rfl)) (λ_ _ ag=>⟨.inl ⟨rfl,rfl⟩,⟨.inl ⟨rfl,rfl⟩,⟨.inl ⟨rfl,rfl⟩,trivial⟩⟩⟩) sz3 ag3 rfl rfl (vI a.First) rfl wz (aH xM rfl 4 rfl wz (ay 9 0 (.inr (by kernel_rfl)) (λ_ _ ag=>⟨.inl ⟨rfl,rfl⟩,⟨.inl ⟨rfl,rfl⟩,⟨.inl ⟨rfl,rfl⟩,⟨.inl ⟨rfl,rfl⟩,trivial⟩⟩⟩⟩) sz3 ag3 rfl rfl (vI a.Last) rfl wz (aH G9 rfl 5 rfl wz (ay 11 0 (.inr (by kernel_rfl)) (λ_ _ ag=>⟨.inl ⟨rfl,rfl⟩,⟨.inl ⟨rfl,rfl⟩,⟨.inl ⟨rfl,rfl⟩,⟨.inl ⟨rfl,rfl⟩,⟨.inl ⟨rfl,rfl⟩,trivial⟩⟩⟩⟩⟩) sz3 ag3 rfl rfl (vI a.Every) rfl wz (aH Gs rfl 6 rfl wz (ay 13 0 (.inr (by kernel_rfl)) (λ_ _ ag=>⟨.inl ⟨rfl,rfl⟩,⟨.inl ⟨rfl,rfl⟩,⟨.inl ⟨rfl,rfl⟩,⟨.inl ⟨rfl,rfl⟩,⟨.inl ⟨rfl,rfl⟩,⟨.inl ⟨rfl,rfl⟩,trivial⟩⟩⟩⟩⟩⟩) sz3 ag3 rfl rfl (vI a.Days) rfl wz (aH Dm rfl 8 rfl wz (ay 15 0 (.inr (by kernel_rfl)) (λ_ _ ag=>⟨.inl ⟨rfl,rfl⟩,⟨.inl ⟨rfl,rfl⟩,⟨.inl ⟨rfl,rfl⟩,⟨.inl ⟨rfl,rfl⟩,⟨.inl ⟨rfl,rfl⟩,⟨.inl ⟨rfl,rfl⟩,⟨.inl ⟨rfl,rfl⟩,trivial⟩⟩⟩⟩⟩⟩⟩) sz3 ag3 rfl rfl (vI a.From) rfl wz (aH F7 rfl 9 rfl wz (ay 17 0 (.inr (by kernel_rfl)) (λ_ _ ag=>⟨.inl ⟨rfl,rfl⟩,⟨.inl ⟨rfl,rfl⟩,⟨.inl ⟨rfl,rfl⟩,⟨.inl ⟨rfl,rfl⟩,⟨.inl ⟨rfl,rfl⟩,⟨.inl ⟨rfl,rfl⟩,⟨.inl ⟨rfl,rfl⟩,⟨.inl ⟨rfl,rfl⟩,trivial⟩⟩⟩⟩⟩⟩⟩⟩) sz3 ag3 rfl rfl (vI a.To) rfl wz (aH zQ rfl 10 rfl wz ?_)))))))))))))))))))))))
   refine ay 19 0 (.inr (by kernel_rfl)) (λ_ _ ag=>⟨.inl ⟨rfl,rfl⟩,⟨.inl ⟨rfl,rfl⟩,⟨.inl ⟨rfl,rfl⟩,⟨.inl ⟨rfl,rfl⟩,⟨.inl ⟨rfl,rfl⟩,⟨.inl ⟨rfl,rfl⟩,⟨.inl ⟨rfl,rfl⟩,⟨.inl ⟨rfl,rfl⟩,⟨.inl ⟨rfl,rfl⟩,trivial⟩⟩⟩⟩⟩⟩⟩⟩⟩) sz3 ag3 rfl rfl (vI a.Prio) rfl wz (eP (([a.Version,a.First,a.Last,a.Every,a.Days,a.From,a.To,a.Prio]:List Int).map eI) ko yQ rfl rfl rfl rfl rfl wz ?_)
   obtain ⟨Q,H,b⟩:=bind_some b
   refine aF (GA H) rfl hb62 rfl rfl rfl rfl wz (aa (vS y) (aa (vL eS c) ?_))
   obtain ⟨R,I,b⟩:=bind_some b
   refine aF (AB I) rfl hb63 rfl rfl rfl rfl wz (aH mI rfl 11 rfl wz (ay 26 0 (.inr (by kernel_rfl)) (λ_ _ ag=>⟨.inl ⟨rfl,rfl⟩,⟨.inl ⟨rfl,rfl⟩,⟨.inl ⟨rfl,rfl⟩,⟨.inl ⟨rfl,rfl⟩,⟨.inl ⟨rfl,rfl⟩,⟨.inl ⟨rfl,rfl⟩,⟨.inl ⟨rfl,rfl⟩,⟨.inl ⟨rfl,rfl⟩,⟨.inl ⟨rfl,rfl⟩,⟨.inl ⟨rfl,rfl⟩,trivial⟩⟩⟩⟩⟩⟩⟩⟩⟩⟩) tV xn rfl rfl (vL eS a.Tags) rfl wz ?_))
   obtain ⟨T,J,b⟩:=bind_some b
   refine aF (AB J) rfl hb63 rfl rfl rfl rfl wz (eP (([a.Key,a.Item,Q,y,R,T]:List ByteArray).map eS) qW Gq rfl rfl rfl rfl rfl wz ?_)
   obtain ⟨w,K,b⟩:=bind_some b
   refine aF (sH K) rfl hb61 rfl rfl rfl rfl wz (aa (vS w) (ah (aN (H0:=([(j,some (.cells 13 (Entry.v a))),(e,gF 1 eS c)]:Hp)) ([(2,(vS w))]:SL_) (by kernel_rfl) (wy (by kernel_rfl)) ?_)))
   obtain rfl:=af b
   exact aC (aL [(vS w)] ⟨rfl,trivial⟩)
theorem CS {a:Entry} {b:Entry} {r:Bool} (e:oI a b=some r) :
  FnM Tryz.prog 14 [(.d (.agg (Entry.enc a))),(.d (.agg (Entry.enc b)))] [] (vB r) []:=by
 refine FnM.of_wH ⟨Tryz.prog,32,[],[]⟩ rfl Tryz.func14 rfl rfl (lb_ rfl) (by kernel_rfl) ?_
 unfold oI at e
 refine aj (dQ 0 (.inl rfl) (Entry.v a) rfl rfl wz (λs=>dQ 0 (.inl rfl) (Entry.v b) rfl rfl wz (λt=>aa (vB false) (ah (au (bI (ay 0 0 (.inr (by kernel_rfl)) (λ_ _ ag=>trivial) kH qx rfl rfl (.d (.agg (Entry.enc a))) rfl wz (ay 1 1 (.inr (by kernel_rfl)) (λ_ _ ag=>⟨.inl ⟨rfl,rfl⟩,trivial⟩) kH qx rfl rfl (.d (.agg (Entry.enc b))) rfl wz (bZ 2 (.inr (by kernel_rfl)) z37 rfl wz (λu=>bZ 3 (.inr (by kernel_rfl)) z37 rfl wz (λw=>dY 4 (.inr (by kernel_rfl)) (λ_ _ ag=>⟨.inr (.inr (by kernel_rfl)),⟨.inr (.inl (dis1 (ag_ne ag (i:=2) (j:=1) rfl rfl (by decide)))),⟨.inr (.inr (by kernel_rfl)),⟨.inr (.inr (by kernel_rfl)),trivial⟩⟩⟩⟩) 2 kH rfl rfl (Entry.v a) rfl wz (dY 5 (.inr (by kernel_rfl)) (λ_ _ ag=>⟨.inr (.inr (by kernel_rfl)),⟨.inr (.inr (by kernel_rfl)),⟨.inr (.inr (by kernel_rfl)),⟨.inr (.inr (by kernel_rfl)),⟨.inr (.inr (by kernel_rfl)),trivial⟩⟩⟩⟩⟩) 3 kH rfl rfl (Entry.v b) rfl wz (ah (aj (aH pU rfl 7 rfl wz (dY 0 il ft 2 sF rfl rfl [(vS a.Key),(vS a.Item),(vI a.Version),(vI a.First),(vI a.Last),(vI a.Every),(vI a.Days),.nil,(vI a.From),(vI a.To),(vI a.Prio),(vL eS a.Tags),(vB a.Gone)] rfl wz (aH mI rfl 11 rfl wz (dY 0 il ft 2 tV rfl rfl [(vS a.Key),(vS a.Item),(vI a.Version),(vI a.First),(vI a.Last),(vI a.Every),(vI a.Days),.nil,(vI a.From),(vI a.To),(vI a.Prio),.nil,(vB a.Gone)] rfl wz (aH pU rfl 7 rfl wz (dY 0 il ft 3 sF rfl rfl [(vS b.Key),(vS b.Item),(vI b.Version),(vI b.First),(vI b.Last),(vI b.Every),(vI b.Days),.nil,(vI b.From),(vI b.To),(vI b.Prio),(vL eS b.Tags),(vB b.Gone)] rfl wz (aH mI rfl 11 rfl wz (dY 0 il ft 3 tV rfl rfl [(vS b.Key),(vS b.Item),(vI b.Version),(vI b.First),(vI b.Last),(vI b.Every),(vI b.Days),.nil,(vI b.From),(vI b.To),(vI b.Prio),.nil,(vB b.Gone)] rfl wz (ah ?_)))))))))))))))))))))))
 refine au ?_
 obtain ⟨k,c,e⟩:=bind_some e
 refine aP [(4,(vB k))] [(s,some (.cells 13 (Entry.v a))),(t,some (.cells 13 (Entry.v b))),(u,some (.cells 13 [(vS a.Key),(vS a.Item),(vI a.Version),(vI a.First),(vI a.Last),(vI a.Every),(vI a.Days),.nil,(vI a.From),(vI a.To),(vI a.Prio),.nil,(vB a.Gone)])),(w,some (.cells 13 [(vS b.Key),(vS b.Item),(vI b.Version),(vI b.First),(vI b.Last),(vI b.Every),(vI b.Days),.nil,(vI b.From),(vI b.To),(vI b.Prio),.nil,(vB b.Gone)]))] ?_ ?_
 ·refine bI (ay 0 2 (.inr (by kernel_rfl)) (λ_ _ ag=>trivial) kH qx rfl rfl (.agg [(vS a.Key),(vS a.Item),(vI a.Version),(vI a.First),(vI a.Last),(vI a.Every),(vI a.Days),.nil,(vI a.From),(vI a.To),(vI a.Prio),.nil,(vB a.Gone)]) rfl wz ?_)
  obtain ⟨z,n,c⟩:=bind_some c
  refine aF (wK n) rfl hb32 rfl rfl rfl rfl wz (ay 2 3 (.inr (by kernel_rfl)) (λ_ _ ag=>⟨.inl ⟨rfl,rfl⟩,trivial⟩) kH qx rfl rfl (.agg [(vS b.Key),(vS b.Item),(vI b.Version),(vI b.First),(vI b.Last),(vI b.Every),(vI b.Days),.nil,(vI b.From),(vI b.To),(vI b.Prio),.nil,(vB b.Gone)]) rfl wz ?_)
  obtain ⟨x,o,c⟩:=bind_some c
  refine aF (wK o) rfl hb32 rfl rfl rfl rfl wz (aa (vB (sEq z x)) ?_)
  rcases ak c with⟨f,c⟩|⟨f,c⟩
  ·refine aD rfl f wz (aH pU rfl 7 rfl wa (ay 7 0 (.inr (by kernel_rfl)) (λ_ _ ag=>⟨.inl ⟨rfl,rfl⟩,⟨.inl ⟨rfl,rfl⟩,trivial⟩⟩) sF xE rfl rfl (vL eI a.Except) rfl wa (aH pU rfl 7 rfl wa (ay 9 1 (.inr (by kernel_rfl)) (λ_ _ ag=>⟨.inl ⟨rfl,rfl⟩,⟨.inl ⟨rfl,rfl⟩,⟨.inl ⟨rfl,rfl⟩,trivial⟩⟩⟩) sF xE rfl rfl (vL eI b.Except) rfl wa ?_))))
   obtain ⟨y,p,c⟩:=bind_some c
   refine aF (pu p) rfl hb33 rfl rfl rfl rfl wa (aa (vB y) ?_)
   rcases ak c with⟨g,c⟩|⟨g,c⟩
   ·refine aD rfl g wz (aH mI rfl 11 rfl wa (ay 14 0 (.inr (by kernel_rfl)) (λ_ _ ag=>⟨.inl ⟨rfl,rfl⟩,⟨.inl ⟨rfl,rfl⟩,⟨.inl ⟨rfl,rfl⟩,⟨.inl ⟨rfl,rfl⟩,trivial⟩⟩⟩⟩) tV xn rfl rfl (vL eS a.Tags) rfl wa (aH mI rfl 11 rfl wa (ay 16 1 (.inr (by kernel_rfl)) (λ_ _ ag=>⟨.inl ⟨rfl,rfl⟩,⟨.inl ⟨rfl,rfl⟩,⟨.inl ⟨rfl,rfl⟩,⟨.inl ⟨rfl,rfl⟩,⟨.inl ⟨rfl,rfl⟩,trivial⟩⟩⟩⟩⟩) tV xn rfl rfl (vL eS b.Tags) rfl wa ?_))))
    obtain ⟨h,q,c⟩:=bind_some c
    refine aF (jc q) rfl hb15 rfl rfl rfl rfl wa (aa (vB h) (aa (vB h) (ah ?_)))
    obtain rfl:=af c
    exact cu
   ·refine aD rfl g wz (ae (ae (ae (ae (ae (aa (vB false) (aa (vB false) (ah ?_))))))))
    obtain rfl:=af c
    exact cu
  ·refine aD rfl f wz (ae (ae (ae (ae (ae (aa (vB false) (aa (vB false) (ae (ae (ae (ae (ae (aa (vB false) (aa (vB false) (ah ?_)))))))))))))))
   obtain rfl:=af c
   exact cu
 ·rintro ⟨⟩ _ B A l m
  refine aN _ l m ?_
  obtain rfl:=af e
  exact aC (aL [(vB k)] ⟨rfl,trivial⟩)
theorem ig {s1_1:(List Entry)} {s2_2:(List Entry)} {r:Bool} (b:bL s1_1 s2_2=some r) :
  FnM Tryz.prog 13 [(vL Entry.enc s1_1),(vL Entry.enc s2_2),(.fn 14 [])] [] (vB r) []:=by
 refine FnM.of_wH ⟨Tryz.prog,32,[],[]⟩ rfl Tryz.func13 rfl rfl (lb_ rfl) (by kernel_rfl) ?_
 unfold bL at b
 refine aj (aa (vB false) (ah (au (aj (aa (vL Entry.enc s1_1) (bS Cv rfl wz (aa (vL Entry.enc s2_2) (bS Cv rfl wz (aa (vB ((s1_1.length:Int) != (s2_2.length:Int))) (ah ?_))))))))))
 rcases ak b with⟨i,b⟩|⟨i,b⟩
 ·refine aB rfl i (aj (aa (vB false) (ah ?_)))
  obtain rfl:=af b
  exact aC (aL [(vB false)] ⟨rfl,trivial⟩)
 ·refine aA rfl i (ax (au (aj (aa (vL Entry.enc s1_1) (bS Cv rfl wz (aa (vI 0) (ah ?_)))))))
  obtain ⟨y,j,b⟩:=bind_some b
  obtain ⟨o,j⟩:=aW j
  refine cz (λ(g:Unit)=>[]) (λ(g:Unit)=>[]) (λ(c:Nat)=>(λ(g:Unit)=>[(1,(vL Entry.enc s2_2)),(2,(.fn 14 [])),(15,(vL Entry.enc s1_1)),(16,(vI (s1_1.length:Int))),(17,(vI (c:Int)))])) (λk x s=>aY s2_2 k x s) y s1_1 () j rfl (aI rfl) ?_ ?_
  ·rintro ⟨c,l,g⟩ ⟨f,e⟩
   dsimp only at f e
   cases l with
   | nil =>
    obtain rfl:=af f
    refine aj (aa (vB (decide ((c:Int)<(s1_1.length:Int)))) (ah ?_))
    refine au (aA rfl (drop_nil e) (aS ?_))
    exact aV (g) rfl rfl (aI rfl)
   | cons m l =>
    obtain ⟨B,a,f⟩:=bind_some f
    refine aj (aa (vB (decide ((c:Int)<(s1_1.length:Int)))) (ah ?_))
    refine au (aB rfl (bv e) (ax ?_))
    unfold aY at a
    refine au (aM (aj (aa (vI (c:Int)) (dR yX rfl rfl (bJ e) rfl wz (bN kH qx rfl (.d (.agg (Entry.enc m))) rfl wz (bZ 0 (.inl rfl) z37 rfl wz (λC=>aa (vI (c:Int)) (dY 0 il ft 0 kH rfl rfl (Entry.v m) rfl wz (ah (aj (aa (vL Entry.enc s2_2) (aa (vI (c:Int)) ?_))))))))))))
    obtain ⟨n,w,a⟩:=bind_some a
    refine dR yX rfl rfl w rfl wz (bN kH qx rfl (.d (.agg (Entry.enc n))) rfl wz (bZ 0 (.inl rfl) z37 rfl wz (λE=>dY 0 il ft 1 kH rfl rfl (Entry.v n) rfl wz (ah (aj (aa (.fn 14 []) (ay 0 0 il ft kH qx rfl rfl (.d (.agg (Entry.enc m))) rfl wz (ay 0 1 il ft kH qx rfl rfl (.d (.agg (Entry.enc n))) rfl wz ?_))))))))
    obtain ⟨z,u,a⟩:=bind_some a
    refine aF (CS u) rfl hb14 rfl rfl rfl rfl wz (aa (vB (!z)) (ah ?_))
    rcases ak a with⟨h,a⟩|⟨h,a⟩
    ·refine aB rfl h (aj (aa (vB false) (ah ?_)))
     obtain rfl:=af a
     obtain rfl:=af f
     obtain rfl:=af b
     exact aC (aL [(vB false)] ⟨rfl,trivial⟩)
    ·refine aA rfl h (ax (av (dX (bD e o) wz rfl (aa (vI ((c+1:Nat):Int)) (ah ?_)))))
     obtain rfl:=af a
     exact aU (c+1,l,()) ⟨f,aQ e⟩ (ls_ _) rfl (aI rfl)
  ·rintro g p F A q t
   subst p
   refine aN _ q t (aj (aa (vB true) (ah ?_)))
   obtain rfl:=af b
   exact aC (aL [(vB true)] ⟨rfl,trivial⟩)
end Go.Proofs.YtadpbmfnnlkdlabGreatDoor.Law

