/-
 The machine computes these plain functions (written by a program of ours).
-/
import Derived.Test.YtnfojnnfidnikaeGreatDoorFacts
import Derived.Test.YtnfojnnfidnikaeGreatDoorDefs
import Derived.Test.YtnfojnnfidnikaeGreatDoorShelf
open Go Go.Eng Go.Proofs
namespace Go.Proofs.YtnfojnnfidnikaeGreatDoor.Law
set_option maxRecDepth 100000
set_option linter.unusedVariables false
set_option maxHeartbeats 1000000
theorem A7 {h:Int} {b:Int} {r:Int} (a:wQ h b=some r) :
  FnM Tryz.prog 95 [(vI h),(vI b)] [] (vI r) []:=by
 refine FnM.of_wH ⟨Tryz.prog,16,[],[]⟩ rfl Tryz.func95 rfl rfl (lb_ rfl) (by kernel_rfl) ?_
 unfold wQ at a
 refine ai (aa (vI 0) (af (ak (ai (aa (vI b) (aa (vB (decide (b<1))) (af ?_)))))))
 rcases aj a with⟨f,a⟩|⟨f,a⟩
 ·refine ay rfl f (ai (aa (vI 0) (af ?_)))
  obtain rfl:=ae a
  exact aC (aN [(vI 0)] ⟨rfl,trivial⟩)
 ·refine ax rfl f (av (ai (aa (vI h) (aa (vI b) ?_))))
  obtain ⟨c,k,a⟩:=bind_some a
  refine Tt rfl rfl k wz (aa (vI c) (af (ak (ai (aa (vI c) (aa (vB (decide (c<0))) (af ?_)))))))
  obtain ⟨e,d,a⟩:=bind_some a
  refine aR [(0,(vI e))] [] ?_ ?_
  ·rcases aj d with⟨g,d⟩|⟨g,d⟩
   ·refine ay rfl g (au (aa (vI c) (aa (vI b) (aa (vI (w64 (c+b))) (aa (vI (w64 (c+b))) (af ?_))))))
    obtain rfl:=ae d
    exact cu
   ·refine ax rfl g (av ?_)
    obtain rfl:=ae d
    exact cu
  ·rintro ⟨⟩ _ m l i j
   refine aO _ i j (ai (aa (vI e) (aa (vI e) (af ?_))))
   obtain rfl:=ae a
   exact aC (aN [(vI e)] ⟨rfl,trivial⟩)
theorem og {a:Stream} {d:Int} {r:Int×Stream} (b:jQ a d=some r) :
  FnM Tryz.prog 59 [(.ref (aA 0) 0 0),(vI d)] [(.cells 2 [(vL eI a.L),(vI a.f_at)])] (vI r.1) [some (.cells 2 [(vL eI r.2.L),(vI r.2.f_at)])]:=by
 refine FnM.of_wH ⟨Tryz.prog,64,[],[]⟩ rfl Tryz.func59 rfl rfl (lb_ rfl) (by kernel_rfl) ?_
 unfold jQ at b
 refine ai (aa (vI 0) (af (ai (aa (.ref (aA 0) 0 0) (aa (.ref (aA 0) 0 0) (aK G9 rfl 1 rfl wz (aI 0 0 il ft sz3 ag3 rfl rfl (vI a.f_at) rfl wz (aa (vI (w64 (a.f_at+1))) (aa (.ref (aA 0) 0 0) (aK G9 rfl 1 rfl wz (jw 0 il ft 0 sz3 rfl rfl [(vL eI a.L),(vI (w64 (a.f_at+1)))] rfl wz (af (ak (ai (aa (.ref (aA 0) 0 0) (aa (.ref (aA 0) 0 0) (aK La rfl 0 rfl wz (aI 0 0 il ft Rf QI rfl rfl (vL eI a.L) rfl wz (bA Ar rfl wz (aa (vB ((a.L.length:Int)==0)) (af ?_)))))))))))))))))))))
 rcases aj b with⟨f,b⟩|⟨f,b⟩
 ·refine ay rfl f (ai (aa (.ref (aA 0) 0 0) (aa (.ref (aA 0) 0 0) (aK G9 rfl 1 rfl wz (aI 0 0 il ft sz3 ag3 rfl rfl (vI (w64 (a.f_at+1))) rfl wz (aa (vI (w64 ((w64 (a.f_at+1))*7919))) (aa (vI d) ?_)))))))
  obtain ⟨h,k,b⟩:=bind_some b
  refine aB (A7 k) rfl hb95 rfl rfl rfl rfl wz (aa (vI h) (af ?_))
  obtain rfl:=ae b
  exact aC (Gw (.inr rfl) [(vI h)] _ [0] [aA 0] ⟨rfl,trivial⟩ (.cons (oh rfl rfl) (.nil)) (by kernel_rfl) ⟨(by kernel_rfl),trivial⟩ (by decide) (by kernel_rfl))
 ·refine ax rfl f (av (ak (bg (aa (.ref (aA 0) 0 0) (aa (.ref (aA 0) 0 0) (aK G9 rfl 1 rfl wz (aI 3 0 (.inr (by kernel_rfl)) (λ_ _ ag=>trivial) sz3 ag3 rfl rfl (vI (w64 (a.f_at+1))) rfl wz (aa (vI (w64 ((w64 (a.f_at+1))-1))) (aa (.ref (aA 0) 0 0) (aa (.ref (aA 0) 0 0) (aK La rfl 0 rfl wz (aI 8 0 (.inr (by kernel_rfl)) (λ_ _ ag=>⟨.inl ⟨rfl,rfl⟩,trivial⟩) Rf QI rfl rfl (vL eI a.L) rfl wz (bA Ar rfl wz ?_)))))))))))))
  obtain ⟨c,m,b⟩:=bind_some b
  refine Tt rfl rfl m wz (aa (vI c) (af (ak (bg (aa (.ref (aA 0) 0 0) (aa (.ref (aA 0) 0 0) (aK G9 rfl 1 rfl wz (aI 3 0 (.inr (by kernel_rfl)) (λ_ _ ag=>trivial) sz3 ag3 rfl rfl (vI (w64 (a.f_at+1))) rfl wz (aa (vI (w64 ((w64 (a.f_at+1))-1))) (aa (.ref (aA 0) 0 0) (aa (.ref (aA 0) 0 0) (aK La rfl 0 rfl wz (aI 8 0 (.inr (by kernel_rfl)) (λ_ _ ag=>⟨.inl ⟨rfl,rfl⟩,trivial⟩) Rf QI rfl rfl (vL eI a.L) rfl wz (bA Ar rfl wz ?_))))))))))))))
  obtain ⟨e,n,b⟩:=bind_some b
  refine PX rfl rfl n wz (aa (vI e) (af (aO (H0:=([((aA 0),some (.cells 2 [(vL eI a.L),(vI (w64 (a.f_at+1)))]))]:Hp)) ([(0,(.ref (aA 0) 0 0)),(1,(vI d)),(5,(vI c)),(6,(vI e))]:SL_) (by kernel_rfl) (AC (by kernel_rfl)) (ai (aa (.ref (aA 0) 0 0) (aa (.ref (aA 0) 0 0) (aK La rfl 0 rfl wz (aI 0 0 il ft Rf QI rfl rfl (vL eI a.L) rfl wz (aa (vI c) ?_)))))))))
  obtain ⟨p,l,b⟩:=bind_some b
  refine dC pQ rfl rfl l rfl wz (bE sz3 ag3 rfl (vI p) rfl wz ?_)
  obtain ⟨o,i,b⟩:=bind_some b
  refine aB (A7 i) rfl hb95 rfl rfl rfl rfl wz (aa (vI e) (aa (vI c) (aa (vI (w64 (7919+c))) (aa (vI (w64 (e*(w64 (7919+c))))) (aa (vI (w64 (o+(w64 (e*(w64 (7919+c))))))) (aa (vI d) ?_))))))
  obtain ⟨g,j,b⟩:=bind_some b
  refine aB (A7 j) rfl hb95 rfl rfl rfl rfl wz (aa (vI g) (af ?_))
  obtain rfl:=ae b
  exact aC (Gw (.inr rfl) [(vI g)] _ [0] [aA 0] ⟨rfl,trivial⟩ (.cons (oh rfl rfl) (.nil)) (by kernel_rfl) ⟨(by kernel_rfl),trivial⟩ (by decide) (by kernel_rfl))
theorem gZ {d:Stream} {b:(List Int)} {r:Int×Stream} (a:dZ d b=some r) :
  FnM Tryz.prog 24 [(.ref (aA 0) 0 0),(vL eI b)] [(.cells 2 [(vL eI d.L),(vI d.f_at)])] (vI r.1) [some (.cells 2 [(vL eI r.2.L),(vI r.2.f_at)])]:=by
 refine FnM.of_wH ⟨Tryz.prog,12,[],[]⟩ rfl Tryz.func24 rfl rfl (lb_ rfl) (by kernel_rfl) ?_
 unfold dZ at a
 refine ai (aa (vI 0) (af (ai (aa (vL eI b) (aa (.ref (aA 0) 0 0) (aa (vL eI b) (bA Ar rfl wz ?_)))))))
 obtain ⟨c,f,a⟩:=bind_some a
 refine gm 0 [0] il ft (og f) rfl hb59 rfl (by kernel_rfl) (by kernel_rfl) (by kernel_rfl) (by kernel_rfl) (by kernel_rfl) (by kernel_rfl) (by kernel_rfl) (by decide) (by kernel_rfl) wz (vI c.1) (by kernel_rfl) ([((aA 0),some (.cells 2 [(vL eI c.2.L),(vI c.2.f_at)]))]:Hp) (by kernel_rfl) ?_
 obtain ⟨e,g,a⟩:=bind_some a
 refine dC pQ rfl rfl g rfl wz (bE sz3 ag3 rfl (vI e) rfl wz (aa (vI e) (af ?_)))
 obtain rfl:=ae a
 exact aC (Gw (.inr rfl) [(vI e)] _ [0] [aA 0] ⟨rfl,trivial⟩ (.cons (oh rfl rfl) (.nil)) (by kernel_rfl) ⟨(by kernel_rfl),trivial⟩ (by decide) (by kernel_rfl))
theorem kZ {f:Stream} {a:Int} {c:Int} {r:Int×Stream} (b:fZ f a c=some r) :
  FnM Tryz.prog 25 [(.ref (aA 0) 0 0),(vI a),(vI c)] [(.cells 2 [(vL eI f.L),(vI f.f_at)])] (vI r.1) [some (.cells 2 [(vL eI r.2.L),(vI r.2.f_at)])]:=by
 refine FnM.of_wH ⟨Tryz.prog,19,[],[]⟩ rfl Tryz.func25 rfl rfl (lb_ rfl) (by kernel_rfl) ?_
 unfold fZ at b
 refine ai (aa (vI 0) (af (ak (ai (aa (vI c) (aa (vI a) (aa (vB (decide (c<a))) (af ?_))))))))
 rcases aj b with⟨e,b⟩|⟨e,b⟩
 ·refine ay rfl e (ai (aa (vI a) (aa (vI a) (af ?_))))
  obtain rfl:=ae b
  exact aC (Gw (.inr rfl) [(vI a)] _ [0] [aA 0] ⟨rfl,trivial⟩ (.cons (oh rfl rfl) (.nil)) (by kernel_rfl) ⟨(by kernel_rfl),trivial⟩ (by decide) (by kernel_rfl))
 ·refine ax rfl e (av (ai (aa (vI a) (aa (.ref (aA 0) 0 0) (aa (vI c) (aa (vI a) (aa (vI (w64 (c-a))) (aa (vI (w64 ((w64 (c-a))+1))) ?_))))))))
  obtain ⟨d,g,b⟩:=bind_some b
  refine gm 0 [0] il ft (og g) rfl hb59 rfl (by kernel_rfl) (by kernel_rfl) (by kernel_rfl) (by kernel_rfl) (by kernel_rfl) (by kernel_rfl) (by kernel_rfl) (by decide) (by kernel_rfl) wz (vI d.1) (by kernel_rfl) ([((aA 0),some (.cells 2 [(vL eI d.2.L),(vI d.2.f_at)]))]:Hp) (by kernel_rfl) (aa (vI (w64 (a+d.1))) (aa (vI (w64 (a+d.1))) (af ?_)))
  obtain rfl:=ae b
  exact aC (Gw (.inr rfl) [(vI (w64 (a+d.1)))] _ [0] [aA 0] ⟨rfl,trivial⟩ (.cons (oh rfl rfl) (.nil)) (by kernel_rfl) ⟨(by kernel_rfl),trivial⟩ (by decide) (by kernel_rfl))
theorem xw {d:Stream} {b:(List ByteArray)} {r:ByteArray×Stream} (a:kR d b=some r) :
  FnM Tryz.prog 26 [(.ref (aA 0) 0 0),(vL eS b)] [(.cells 2 [(vL eI d.L),(vI d.f_at)])] (vS r.1) [some (.cells 2 [(vL eI r.2.L),(vI r.2.f_at)])]:=by
 refine FnM.of_wH ⟨Tryz.prog,12,[],[]⟩ rfl Tryz.func26 rfl rfl (lb_ rfl) (by kernel_rfl) ?_
 unfold kR at a
 refine ai (aa (vS (⟨#[]⟩:ByteArray)) (af (ai (aa (vL eS b) (aa (.ref (aA 0) 0 0) (aa (vL eS b) (bA vk rfl wz ?_)))))))
 obtain ⟨c,f,a⟩:=bind_some a
 refine gm 0 [0] il ft (og f) rfl hb59 rfl (by kernel_rfl) (by kernel_rfl) (by kernel_rfl) (by kernel_rfl) (by kernel_rfl) (by kernel_rfl) (by kernel_rfl) (by decide) (by kernel_rfl) wz (vI c.1) (by kernel_rfl) ([((aA 0),some (.cells 2 [(vL eI c.2.L),(vI c.2.f_at)]))]:Hp) (by kernel_rfl) ?_
 obtain ⟨e,g,a⟩:=bind_some a
 refine dC rF rfl rfl g rfl wz (bE sz9 ag9 rfl (vS e) rfl wz (aa (vS e) (af ?_)))
 obtain rfl:=ae a
 exact aC (Gw (.inr rfl) [(vS e)] _ [0] [aA 0] ⟨rfl,trivial⟩ (.cons (oh rfl rfl) (.nil)) (by kernel_rfl) ⟨(by kernel_rfl),trivial⟩ (by decide) (by kernel_rfl))
theorem qC {x0:Int} {r:ByteArray} (a:strconv_Itoa x0=some r) :
  FnM Tryz.prog 129 [(vI x0)] [] (vS r) [] :=
 itoa_ok Tryz.strconv_Itoa O3 a
theorem FO {x0:(List ByteArray)} {x1:ByteArray} {r:ByteArray} (a:strings_Join x0 x1=some r) :
  FnM Tryz.prog 145 [(vL eS x0),(vS x1)] [] (vS r) [] :=
 join_ok rfl Tryz.strings_Join_none Tryz.strings_Join a
theorem GN {c:(List Int)} {r:ByteArray} (e:tY c=some r) :
  FnM Tryz.prog 96 [(vL eI c)] [] (vS r) []:=by
 refine FnM.of_wH ⟨Tryz.prog,20,[],[]⟩ rfl Tryz.func96 rfl rfl (lb_ rfl) (by kernel_rfl) ?_
 unfold tY at e
 refine ai (aa (vS (⟨#[]⟩:ByteArray)) (af (ai (aa .nil (af (ak (ai (aa (vL eI c) (bA Ar rfl wz (aa (vI 0) (af (iM (λB => ?_)))))))))))))
 obtain ⟨C,j,e⟩:=bind_some e
 obtain ⟨t,j⟩:=aY j
 refine iw (σ:=(List ByteArray)) (N:=Nm) (λp=>(λ(a:List ByteArray) (b:Nm)=>([(3,(gV b 1 a))]:SL_)) p.1 p.2) (λp=>(λ(a:List ByteArray) (b:Nm)=>([(b,gB 1 eS a)]:Hp)) p.1 p.2) (λ(g:Nat)=>(λp=>(λ(a:List ByteArray) (b:Nm)=>([(3,(gV b 1 a)),(6,(vL eI c)),(7,(vI (c.length:Int))),(8,(vI (g:Int)))]:SL_)) p.1 p.2)) (λk x s=>mP k x s) C c (([]:List ByteArray),B) j rfl (aG rfl) ?_ ?_
 ·rintro ⟨g,l,a,b⟩ ⟨h,d⟩
  dsimp only at h d
  cases l with
  | nil =>
   obtain rfl:=ae h
   refine ai (aa (vB (decide ((g:Int)<(c.length:Int)))) (af ?_))
   refine ak (ax rfl (drop_nil d) (aU ?_))
   exact aW (a,b) rfl rfl (aG rfl)
  | cons m l =>
   obtain ⟨G,f,h⟩:=bind_some h
   refine ai (aa (vB (decide ((g:Int)<(c.length:Int)))) (af ?_))
   refine ak (ay rfl (bu d) (av ?_))
   unfold mP at f
   refine ak (aM (ai (dC pQ rfl rfl (bI d) rfl wz (bE sz3 ag3 rfl (vI m) rfl wz (aa (vI m) (af (au (aa (gV b 1 a) (aa (vI m) ?_)))))))))
   obtain ⟨E,y,f⟩:=bind_some f
   refine aB (qC y) rfl PP rfl rfl rfl rfl wz (eu (([E]:List ByteArray).map eS) rF IP rfl rfl rfl rfl rfl wz ?_)
   obtain ⟨n,A,f⟩:=bind_some f
   refine jF 0 il ft (i:=0) FN FN sz9 z9 rfl (by decide) by9 (by decide) (λ_=>rfl) rfl rfl rfl A wz (λo=>aa (gV o 1 n) (af (au (dH (bz d t) wz rfl (aa (vI ((g+1:Nat):Int)) (af ?_))))))
   obtain rfl:=ae f
   exact aV (g+1,l,n,o) ⟨h,aX d⟩ (ls_ _) rfl (aG rfl)
 ·rintro ⟨a,b⟩ u H F v w
  subst u
  refine aO _ v w (ak (iq 0 rfl (cO 3 0 rfl rfl (au (aa (vL eS a) ?_)))))
  obtain ⟨q,z,e⟩:=bind_some e
  refine aB (FO z) rfl hb145 rfl rfl rfl rfl wz (aa (vS q) (af ?_))
  obtain rfl:=ae e
  exact aC (aN [(vS q)] ⟨rfl,trivial⟩)
theorem Hz {b:Log_} {r:ByteArray} (a:uh b=some r) :
  FnM Tryz.prog 61 [(.d (.agg (Log_.enc b)))] [] (vS r) []:=by
 refine FnM.of_wH ⟨Tryz.prog,19,[],[]⟩ rfl Tryz.func61 rfl rfl (lb_ rfl) (by kernel_rfl) ?_
 unfold uh at a
 refine ai (ib 0 (.inl rfl) (Log_.v b) rfl rfl wz (λj=>aa (vS (⟨#[]⟩:ByteArray)) (af (ak (bg (aK ze rfl 0 rfl wz (aI 1 0 (.inr (by kernel_rfl)) (λ_ _ ag=>trivial) sz9 ag9 rfl rfl (vS b.Player) rfl wz ?_)))))))
 obtain ⟨l,g,a⟩:=bind_some a
 refine pR rfl rfl g wz (aK Lr rfl 1 rfl wz (aI 4 0 (.inr (by kernel_rfl)) (λ_ _ ag=>⟨.inl ⟨rfl,rfl⟩,trivial⟩) sz9 ag9 rfl rfl (vS b.Item) rfl wz ?_))
 obtain ⟨m,h,a⟩:=bind_some a
 refine pR rfl rfl h wz ?_
 obtain ⟨n,i,a⟩:=bind_some a
 refine pR rfl rfl i wz (aK H7 rfl 2 rfl wz (aI 8 0 (.inr (by kernel_rfl)) (λ_ _ ag=>⟨.inl ⟨rfl,rfl⟩,⟨.inl ⟨rfl,rfl⟩,trivial⟩⟩) sz3 ag3 rfl rfl (vI b.No) rfl wz (aK GQ rfl 3 rfl wz (aI 10 0 (.inr (by kernel_rfl)) (λ_ _ ag=>⟨.inl ⟨rfl,rfl⟩,⟨.inl ⟨rfl,rfl⟩,⟨.inl ⟨rfl,rfl⟩,trivial⟩⟩⟩) sz3 ag3 rfl rfl (vI b.Clock) rfl wz (aK K4 rfl 4 rfl wz (aI 12 0 (.inr (by kernel_rfl)) (λ_ _ ag=>⟨.inl ⟨rfl,rfl⟩,⟨.inl ⟨rfl,rfl⟩,⟨.inl ⟨rfl,rfl⟩,⟨.inl ⟨rfl,rfl⟩,trivial⟩⟩⟩⟩) sz3 ag3 rfl rfl (vI b.Long) rfl wz (eu (([b.No,b.Clock,b.Long]:List Int).map eI) pQ zP rfl rfl rfl rfl rfl wz ?_)))))))
 obtain ⟨k,e,a⟩:=bind_some a
 refine aB (GN e) rfl hb96 rfl rfl rfl rfl wz ?_
 obtain ⟨c,f,a⟩:=bind_some a
 refine pR rfl rfl f wz (aa (vS c) (af ?_))
 obtain rfl:=ae a
 exact aC (aN [(vS c)] ⟨rfl,trivial⟩)
theorem NI {c:ByteArray} {r:ByteArray} (g:yc c=some r) :
  FnM Tryz.prog 60 [(vS c)] [] (vS r) []:=by
 refine FnM.of_wH ⟨Tryz.prog,34,[],[]⟩ rfl Tryz.func60 rfl rfl (lb_ rfl) (by kernel_rfl) ?_
 unfold yc at g
 refine ai (aa (vS (⟨#[]⟩:ByteArray)) (af (ai (aa (.d (.int .u64 14695981039346656037)) (af (ak (ai (aa (vS c) (h_convs un9 Sc un5 rfl wz (bA Sc rfl wz (aa (vI 0) (af ?_))))))))))))
 obtain ⟨H,o,g⟩:=bind_some g
 obtain ⟨E,o⟩:=aY o
 refine bN (λ(b:Int)=>[(3,(.d (.int .u64 b)))]) (λ(b:Int)=>[]) (λ(j:Nat)=>(λ(b:Int)=>[(3,(.d (.int .u64 b))),(8,(vL (eK .u8) (fU c))),(9,(vI ((fU c).length:Int))),(10,(vI (j:Int)))])) (λk x s=>xI k x s) H (fU c) 14695981039346656037 o rfl (aG rfl) ?_ ?_
 ·rintro ⟨j,w,b⟩ ⟨n,f⟩
  dsimp only at n f
  cases w with
  | nil =>
   obtain rfl:=ae n
   refine ai (aa (vB (decide ((j:Int)<((fU c).length:Int)))) (af ?_))
   refine ak (ax rfl (drop_nil f) (aU ?_))
   exact aW (b) rfl rfl (aG rfl)
  | cons e w =>
   obtain ⟨B,y,n⟩:=bind_some n
   refine ai (aa (vB (decide ((j:Int)<((fU c).length:Int)))) (af ?_))
   refine ak (ay rfl (bu f) (av ?_))
   unfold xI at y
   refine ak (aM (ai (dC es163 rfl rfl (bI f) rfl wz (bE sz5 ag5 rfl (.d (.int .u8 e)) rfl wz (aa (.d (.int .u8 e)) (af (au (aa (.d (.int .u64 b)) (aa (.d (.int .u8 e)) (rY un5 Kg rfl wz (aa (.d (.int .u64 (vM .u64 b (IntKind.u64.wrap e)))) (aa (.d (.int .u64 (IntKind.u64.wrap ((vM .u64 b (IntKind.u64.wrap e))*1099511628211)))) (aa (.d (.int .u64 (IntKind.u64.wrap ((vM .u64 b (IntKind.u64.wrap e))*1099511628211)))) (af (au (dH (bz f E) wz rfl (aa (vI ((j+1:Nat):Int)) (af ?_))))))))))))))))))
   obtain rfl:=ae y
   exact aV (j+1,w,(IntKind.u64.wrap ((vM .u64 b (IntKind.u64.wrap e))*1099511628211))) ⟨n,aX f⟩ (ls_ _) rfl (aG rfl)
 ·rintro b q J A t u
  subst q
  refine aO _ t u (ai (aa (vS (⟨#[]⟩:ByteArray)) (af (ak (ai (aa (vI 0) (af ?_)))))))
  obtain ⟨I,p,g⟩:=bind_some g
  obtain ⟨C,p⟩:=aY p
  refine bN (λ(a:Int×ByteArray)=>[(6,(vS a.2))]) (λ(a:Int×ByteArray)=>[]) (λ(i:Nat)=>(λ(a:Int×ByteArray)=>[(3,(.d (.int .u64 a.1))),(6,(vS a.2)),(20,(vI (i:Int)))])) (λk x s=>qV k x s) I (List.range (16:Int).toNat) (b,(⟨#[]⟩:ByteArray)) p rfl (aG rfl) ?_ ?_
  ·rintro ⟨i,v,a⟩ ⟨m,l⟩
   dsimp only at m l
   cases v with
   | nil =>
    obtain rfl:=ae m
    refine ai (aa (vB (decide ((i:Int)<16))) (af ?_))
    refine ak (ax rfl (lH l) (aU ?_))
    exact aW (a) rfl rfl (aG rfl)
   | cons K v =>
    obtain ⟨B,h,m⟩:=bind_some m
    refine ai (aa (vB (decide ((i:Int)<16))) (af ?_))
    refine ak (ay rfl (jZ l) (av ?_))
    unfold qV at h
    refine ak (aM (ai (aa (.d (.int .u64 a.1)) (aa (.d (.int .u64 (a.1.tmod 16))) (aa (.d (.int .u64 a.1)) (aa (.d (.int .u64 (a.1.tmod 16))) (aa (.d (.int .u64 (IntKind.u64.wrap ((a.1.tmod 16)+1)))) ?_)))))))
    obtain ⟨L,F,h⟩:=bind_some h
    refine I6 un9 rfl rfl rfl F wz (aa (vS a.2) ?_)
    obtain ⟨z,G,h⟩:=bind_some h
    refine pR rfl rfl G wz (aa (vS z) (af (au (aa (.d (.int .u64 a.1)) (aa (.d (.int .u64 (IntKind.u64.wrap (a.1.tdiv 16)))) (aa (.d (.int .u64 (IntKind.u64.wrap (a.1.tdiv 16)))) (af (au (dH (lF l C) wz rfl (aa (vI ((i+1:Nat):Int)) (af ?_)))))))))))
    obtain rfl:=ae h
    exact aV (i+1,v,((IntKind.u64.wrap (a.1.tdiv 16)),z)) ⟨m,aX l⟩ (ls_ _) rfl (aG rfl)
  ·rintro a q J A t u
   subst q
   refine aO _ t u (ai (aa (vS a.2) (aa (vS a.2) (af ?_))))
   obtain rfl:=ae g
   exact aC (aN [(vS a.2)] ⟨rfl,trivial⟩)
theorem Lb {c:ByteArray} {b:Log_} {r:ByteArray} (a:yB c b=some r) :
  FnM Tryz.prog 27 [(vS c),(.d (.agg (Log_.enc b)))] [] (vS r) []:=by
 refine FnM.of_wH ⟨Tryz.prog,11,[],[]⟩ rfl Tryz.func27 rfl rfl (lb_ rfl) (by kernel_rfl) ?_
 unfold yB at a
 refine ai (ib 0 (.inl rfl) (Log_.v b) rfl rfl wz (λj=>aa (vS (⟨#[]⟩:ByteArray)) (af (ai (aa (vS c) ?_)))))
 obtain ⟨l,h,a⟩:=bind_some a
 refine pR rfl rfl h wz (aI 0 0 il ft lw rQ rfl rfl (.d (.agg (Log_.enc b))) rfl wz ?_)
 obtain ⟨k,g,a⟩:=bind_some a
 refine aB (Hz g) rfl hb61 rfl rfl rfl rfl wz ?_
 obtain ⟨m,i,a⟩:=bind_some a
 refine pR rfl rfl i wz ?_
 obtain ⟨e,f,a⟩:=bind_some a
 refine aB (NI f) rfl hb60 rfl rfl rfl rfl wz (aa (vS e) (af ?_))
 obtain rfl:=ae a
 exact aC (aN [(vS e)] ⟨rfl,trivial⟩)
theorem Dz {d:Stream} {c:Int} {r:Bool×Stream} (b:mJ d c=some r) :
  FnM Tryz.prog 28 [(.ref (aA 0) 0 0),(vI c)] [(.cells 2 [(vL eI d.L),(vI d.f_at)])] (vB r.1) [some (.cells 2 [(vL eI r.2.L),(vI r.2.f_at)])]:=by
 refine FnM.of_wH ⟨Tryz.prog,9,[],[]⟩ rfl Tryz.func28 rfl rfl (lb_ rfl) (by kernel_rfl) ?_
 unfold mJ at b
 refine ai (aa (vB false) (af (ai (aa (.ref (aA 0) 0 0) (aa (vI c) ?_)))))
 obtain ⟨a,e,b⟩:=bind_some b
 refine gm 0 [0] il ft (og e) rfl hb59 rfl (by kernel_rfl) (by kernel_rfl) (by kernel_rfl) (by kernel_rfl) (by kernel_rfl) (by kernel_rfl) (by kernel_rfl) (by decide) (by kernel_rfl) wz (vI a.1) (by kernel_rfl) ([((aA 0),some (.cells 2 [(vL eI a.2.L),(vI a.2.f_at)]))]:Hp) (by kernel_rfl) (aa (vB (a.1==0)) (aa (vB (a.1==0)) (af ?_)))
 obtain rfl:=ae b
 exact aC (Gw (.inr rfl) [(vB (a.1==0))] _ [0] [aA 0] ⟨rfl,trivial⟩ (.cons (oh rfl rfl) (.nil)) (by kernel_rfl) ⟨(by kernel_rfl),trivial⟩ (by decide) (by kernel_rfl))
theorem rZ {I:Stream} {t:Int} {r:(List Log_)×Stream} (J:jr I t=some r) :
  FnM Tryz.prog 4 [(.ref (aA 0) 0 0),(vI t)] [(.cells 2 [(vL eI I.L),(vI I.f_at)])] (vL Log_.enc r.1) [some (.cells 2 [(vL eI r.2.L),(vI r.2.f_at)])]:=by
 refine FnM.of_wH ⟨Tryz.prog,59,[],[]⟩ rfl Tryz.func4 rfl rfl (lb_ rfl) (by kernel_rfl) ?_
 unfold jr at J
 refine ai (aa .nil (af (ai (aa .nil (af (ak (ai (eu (([(⟨#[112,97]⟩:ByteArray),(⟨#[112,98]⟩:ByteArray)]:List ByteArray).map eS) rF IP rfl rfl rfl rfl rfl wz (bA vk rfl wz (aa (vI 0) (af (iM (λÊ => ?_)))))))))))))
 obtain ⟨Ë,M,J⟩:=bind_some J
 obtain ⟨Á,M⟩:=aY M
 refine iw (σ:=(List Log_)×(List Int)×Int) (N:=Nm) (λp=>(λ(f:(List Log_)×(List Int)×Int) (h:Nm)=>([(5,(gV h 6 f.1))]:SL_)) p.1 p.2) (λp=>(λ(f:(List Log_)×(List Int)×Int) (h:Nm)=>([((aA 0),some (.cells 2 [(vL eI f.2.1),(vI f.2.2)])),(h,gB 6 Log_.enc f.1)]:Hp)) p.1 p.2) (λ(q:Nat)=>(λp=>(λ(f:(List Log_)×(List Int)×Int) (h:Nm)=>([(0,(.ref (aA 0) 0 0)),(1,(vI t)),(5,(gV h 6 f.1)),(12,(vL eS ([(⟨#[112,97]⟩:ByteArray),(⟨#[112,98]⟩:ByteArray)]:List ByteArray))),(13,(vI (([(⟨#[112,97]⟩:ByteArray),(⟨#[112,98]⟩:ByteArray)]:List ByteArray).length:Int))),(14,(vI (q:Int)))]:SL_)) p.1 p.2)) (λk x s=>gu t k x s) Ë ([(⟨#[112,97]⟩:ByteArray),(⟨#[112,98]⟩:ByteArray)]:List ByteArray) ((([]:List Log_),I.L,I.f_at),Ê) M rfl (aG rfl) ?_ ?_
 ·rintro ⟨q,R,f,h⟩ ⟨A,y⟩
  dsimp only at A y
  cases R with
  | nil =>
   obtain rfl:=ae A
   refine ai (aa (vB (decide ((q:Int)<(([(⟨#[112,97]⟩:ByteArray),(⟨#[112,98]⟩:ByteArray)]:List ByteArray).length:Int)))) (af ?_))
   refine ak (ax rfl (drop_nil y) (aU ?_))
   exact aW (f,h) rfl rfl (aG rfl)
  | cons e R =>
   obtain ⟨Z,u,A⟩:=bind_some A
   refine ai (aa (vB (decide ((q:Int)<(([(⟨#[112,97]⟩:ByteArray),(⟨#[112,98]⟩:ByteArray)]:List ByteArray).length:Int)))) (af ?_))
   refine ak (ay rfl (bu y) (av ?_))
   unfold gu at u
   refine ak (aM (ai (dC rF rfl rfl (bI y) rfl wz (bE sz9 ag9 rfl (vS e) rfl wz (aa (vS e) (af (ai (aa (.ref (aA 0) 0 0) (eu (([0,50,1000]:List Int).map eI) pQ zP rfl rfl rfl rfl rfl wz ?_)))))))))
   obtain ⟨H,Â,u⟩:=bind_some u
   refine gm 0 [0] il ft (gZ Â) rfl Mm rfl (by kernel_rfl) (by kernel_rfl) (by kernel_rfl) (by kernel_rfl) (by kernel_rfl) (by kernel_rfl) (by kernel_rfl) (by decide) (by kernel_rfl) wz (vI H.1) (by kernel_rfl) ([((aA 0),some (.cells 2 [(vL eI H.2.L),(vI H.2.f_at)])),(h,gB 6 Log_.enc f.1)]:Hp) (by kernel_rfl) (aa (vS (⟨#[]⟩:ByteArray)) (aa (vI H.1) (af (ai (aa (.ref (aA 0) 0 0) (aa (vI t) ?_))))))
   obtain ⟨n,Ã,u⟩:=bind_some u
   refine gm 0 [0] il ft (kZ Ã) rfl Te rfl (by kernel_rfl) (by kernel_rfl) (by kernel_rfl) (by kernel_rfl) (by kernel_rfl) (by kernel_rfl) (by kernel_rfl) (by decide) (by kernel_rfl) wz (vI n.1) (by kernel_rfl) ([((aA 0),some (.cells 2 [(vL eI n.2.L),(vI n.2.f_at)])),(h,gB 6 Log_.enc f.1)]:Hp) (by kernel_rfl) (aa (vI 0) (af ?_))
   obtain ⟨Ì,O,u⟩:=bind_some u
   obtain ⟨À,O⟩:=aY O
   refine iw (σ:=(List Log_)×ByteArray×Int×(List Int)×Int) (N:=Nm) (λp=>(λ(a:(List Log_)×ByteArray×Int×(List Int)×Int) (c:Nm)=>([(0,(.ref (aA 0) 0 0)),(1,(vI t)),(5,(gV c 6 a.1)),(12,(vL eS ([(⟨#[112,97]⟩:ByteArray),(⟨#[112,98]⟩:ByteArray)]:List ByteArray))),(13,(vI (([(⟨#[112,97]⟩:ByteArray),(⟨#[112,98]⟩:ByteArray)]:List ByteArray).length:Int))),(14,(vI (q:Int)))]:SL_)) p.1 p.2) (λp=>(λ(a:(List Log_)×ByteArray×Int×(List Int)×Int) (c:Nm)=>([((aA 0),some (.cells 2 [(vL eI a.2.2.2.1),(vI a.2.2.2.2)])),(c,gB 6 Log_.enc a.1)]:Hp)) p.1 p.2) (λ(b:Nat)=>(λp=>(λ(a:(List Log_)×ByteArray×Int×(List Int)×Int) (c:Nm)=>([(0,(.ref (aA 0) 0 0)),(1,(vI t)),(5,(gV c 6 a.1)),(7,(vS e)),(8,(vS a.2.1)),(9,(vI a.2.2.1)),(12,(vL eS ([(⟨#[112,97]⟩:ByteArray),(⟨#[112,98]⟩:ByteArray)]:List ByteArray))),(13,(vI (([(⟨#[112,97]⟩:ByteArray),(⟨#[112,98]⟩:ByteArray)]:List ByteArray).length:Int))),(14,(vI (q:Int))),(23,(vI n.1)),(24,(vI (b:Int)))]:SL_)) p.1 p.2)) (λk x s=>jo e k x s) Ì (List.range (n.1).toNat) ((f.1,(⟨#[]⟩:ByteArray),H.1,n.2.L,n.2.f_at),h) O rfl (aG rfl) ?_ ?_
   ·rintro ⟨b,Q,a,c⟩ ⟨B,z⟩
    dsimp only at B z
    cases Q with
    | nil =>
     obtain rfl:=ae B
     refine ai (aa (vB (decide ((b:Int)<n.1))) (af ?_))
     refine ak (ax rfl (lH z) (aU ?_))
     exact aW (a,c) rfl rfl (aG rfl)
    | cons Í Q =>
     obtain ⟨Z,g,B⟩:=bind_some B
     refine ai (aa (vB (decide ((b:Int)<n.1))) (af ?_))
     refine ak (ay rfl (jZ z) (av ?_))
     unfold jo at g
     refine ak (aM (ai (aa (vI (b:Int)) (aa (vI (b:Int)) (af (ai (aa (vS e) (aa (.ref (aA 0) 0 0) (eu (([(⟨#[105,97]⟩:ByteArray),(⟨#[105,98]⟩:ByteArray)]:List ByteArray).map eS) rF IP rfl rfl rfl rfl rfl wz ?_)))))))))
     obtain ⟨j,Ä,g⟩:=bind_some g
     refine gm 0 [0] il ft (xw Ä) rfl hb26 rfl (by kernel_rfl) (by kernel_rfl) (by kernel_rfl) (by kernel_rfl) (by kernel_rfl) (by kernel_rfl) (by kernel_rfl) (by decide) (by kernel_rfl) wz (vS j.1) (by kernel_rfl) ([((aA 0),some (.cells 2 [(vL eI j.2.L),(vI j.2.f_at)])),(c,gB 6 Log_.enc a.1)]:Hp) (by kernel_rfl) (aa (vI (b:Int)) (aa (vI (w64 ((b:Int)+1))) (aa (vI a.2.2.1) (aa (.ref (aA 0) 0 0) (eu (([1,10,30,100]:List Int).map eI) pQ zP rfl rfl rfl rfl rfl wz ?_)))))
     obtain ⟨l,Å,g⟩:=bind_some g
     refine gm 0 [0] il ft (gZ Å) rfl Mm rfl (by kernel_rfl) (by kernel_rfl) (by kernel_rfl) (by kernel_rfl) (by kernel_rfl) (by kernel_rfl) (by kernel_rfl) (by decide) (by kernel_rfl) wz (vI l.1) (by kernel_rfl) ([((aA 0),some (.cells 2 [(vL eI l.2.L),(vI l.2.f_at)])),(c,gB 6 Log_.enc a.1)]:Hp) (by kernel_rfl) (aL (.d (.agg (Log_.enc (⟨e,j.1,(w64 ((b:Int)+1)),a.2.2.1,l.1,(⟨#[]⟩:ByteArray)⟩:Log_)))) wz (by kernel_rfl) (dA 0 (.inl rfl) z37 rfl wz (λF=>jw 0 il ft 2 lw rfl rfl [(vS e),(vS j.1),(vI (w64 ((b:Int)+1))),(vI a.2.2.1),(vI l.1),(vS (⟨#[]⟩:ByteArray))] rfl wz (af (ai (aa (vS a.2.1) (aI 0 2 il ft lw rQ rfl rfl (.d (.agg (Log_.enc (⟨e,j.1,(w64 ((b:Int)+1)),a.2.2.1,l.1,(⟨#[]⟩:ByteArray)⟩:Log_)))) rfl wz ?_)))))))
     obtain ⟨m,Æ,g⟩:=bind_some g
     refine aB (Lb Æ) rfl hb27 rfl rfl rfl rfl wz (aK GY rfl 5 rfl wz (jw 0 il ft 2 sz9 rfl rfl [(vS e),(vS j.1),(vI (w64 ((b:Int)+1))),(vI a.2.2.1),(vI l.1),(vS m)] rfl wz (af (ai (aK GY rfl 5 rfl wz (aI 0 2 il ft sz9 ag9 rfl rfl (vS m) rfl wz (aa (vS m) (af (ai (aa (vI a.2.2.1) (aa (.ref (aA 0) 0 0) (eu (([0,5,10,50,100]:List Int).map eI) pQ zP rfl rfl rfl rfl rfl wz ?_))))))))))))
     obtain ⟨v,Ç,g⟩:=bind_some g
     refine gm 0 [0] il ft (gZ Ç) rfl Mm rfl (by kernel_rfl) (by kernel_rfl) (by kernel_rfl) (by kernel_rfl) (by kernel_rfl) (by kernel_rfl) (by kernel_rfl) (by decide) (by kernel_rfl) wz (vI v.1) (by kernel_rfl) ([((aA 0),some (.cells 2 [(vL eI v.2.L),(vI v.2.f_at)])),(c,gB 6 Log_.enc a.1),(F,some (.cells 6 [(vS e),(vS j.1),(vI (w64 ((b:Int)+1))),(vI a.2.2.1),(vI l.1),(vS m)]))]:Hp) (by kernel_rfl) (aa (vI (w64 (a.2.2.1+v.1))) (aa (vI (w64 (a.2.2.1+v.1))) (af (ai (aa (.ref (aA 0) 0 0) ?_)))))
     obtain ⟨o,È,g⟩:=bind_some g
     refine gm 0 [0] il ft (Dz È) rfl hb28 rfl (by kernel_rfl) (by kernel_rfl) (by kernel_rfl) (by kernel_rfl) (by kernel_rfl) (by kernel_rfl) (by kernel_rfl) (by decide) (by kernel_rfl) wz (vB o.1) (by kernel_rfl) ([((aA 0),some (.cells 2 [(vL eI o.2.L),(vI o.2.f_at)])),(c,gB 6 Log_.enc a.1),(F,some (.cells 6 [(vS e),(vS j.1),(vI (w64 ((b:Int)+1))),(vI a.2.2.1),(vI l.1),(vS m)]))]:Hp) (by kernel_rfl) (aa (vB (!o.1)) (af (aO (H0:=([((aA 0),some (.cells 2 [(vL eI o.2.L),(vI o.2.f_at)])),(c,gB 6 Log_.enc a.1),(F,some (.cells 6 [(vS e),(vS j.1),(vI (w64 ((b:Int)+1))),(vI a.2.2.1),(vI l.1),(vS m)]))]:Hp)) ([(0,(.ref (aA 0) 0 0)),(1,(vI t)),(5,(gV c 6 a.1)),(7,(vS e)),(8,(vS m)),(9,(vI (w64 (a.2.2.1+v.1)))),(11,(.ref F 0 0)),(12,(vL eS ([(⟨#[112,97]⟩:ByteArray),(⟨#[112,98]⟩:ByteArray)]:List ByteArray))),(13,(vI (([(⟨#[112,97]⟩:ByteArray),(⟨#[112,98]⟩:ByteArray)]:List ByteArray).length:Int))),(14,(vI (q:Int))),(23,(vI n.1)),(24,(vI (b:Int))),(51,(vB (!o.1)))]:SL_) (by kernel_rfl) (AC (by kernel_rfl)) ?_)))
     obtain ⟨T,w,g⟩:=bind_some g
     refine lu (β:=Nm) (λ(G:Nm)=>([(0,(.ref (aA 0) 0 0)),(1,(vI t)),(5,(gV G 6 T)),(7,(vS e)),(8,(vS m)),(9,(vI (w64 (a.2.2.1+v.1)))),(12,(vL eS ([(⟨#[112,97]⟩:ByteArray),(⟨#[112,98]⟩:ByteArray)]:List ByteArray))),(13,(vI (([(⟨#[112,97]⟩:ByteArray),(⟨#[112,98]⟩:ByteArray)]:List ByteArray).length:Int))),(14,(vI (q:Int))),(23,(vI n.1)),(24,(vI (b:Int)))]:SL_)) (λ(G:Nm)=>([((aA 0),some (.cells 2 [(vL eI o.2.L),(vI o.2.f_at)])),(G,gB 6 Log_.enc T),(F,some (.cells 6 [(vS e),(vS j.1),(vI (w64 ((b:Int)+1))),(vI a.2.2.1),(vI l.1),(vS m)]))]:Hp)) (λ_=>True) ?_ ?_
     ·rcases aj w with⟨K,w⟩|⟨K,w⟩
      ·refine ay rfl K (au (aa (gV c 6 a.1) (aI 0 2 il ft lw rQ rfl rfl (.d (.agg (Log_.enc (⟨e,j.1,(w64 ((b:Int)+1)),a.2.2.1,l.1,m⟩:Log_)))) rfl wz (eu (([(⟨e,j.1,(w64 ((b:Int)+1)),a.2.2.1,l.1,m⟩:Log_)]:List Log_).map Log_.enc) sG ez26 rfl rfl rfl rfl rfl wz ?_))))
       obtain ⟨Y,É,w⟩:=bind_some w
       refine jF 0 il ft (i:=1) MC MC lw z37 rfl (by decide) by37 (by decide) (λ_=>rfl) rfl rfl rfl É wz (λW=>aa (gV W 6 Y) (af ?_))
       obtain rfl:=ae w
       exact aW W trivial rfl (aG rfl)
      ·refine ax rfl K (av ?_)
       obtain rfl:=ae w
       exact aW c trivial rfl (aG rfl)
     ·rintro G _ X U C E
      refine aO _ C E (au (dH (lF z À) wz rfl (aa (vI ((b+1:Nat):Int)) (af ?_))))
      obtain rfl:=ae g
      exact aV (b+1,Q,(T,m,(w64 (a.2.2.1+v.1)),o.2.L,o.2.f_at),G) ⟨B,aX z⟩ (ls_ _) rfl (aG rfl)
   ·rintro ⟨a,c⟩ P X U C E
    subst P
    refine aO _ C E (au (dH (bz y Á) wz rfl (aa (vI ((q+1:Nat):Int)) (af ?_))))
    obtain rfl:=ae u
    exact aV (q+1,R,(a.1,a.2.2.2.1,a.2.2.2.2),c) ⟨A,aX y⟩ (ls_ _) rfl (aG rfl)
 ·rintro ⟨f,h⟩ P X U C E
  subst P
  refine aO _ C E (ai (aa (gV h 6 f.1) (aa (gV h 6 f.1) (af (iq 1 rfl (cO 4 1 rfl rfl (cO 5 1 rfl rfl (cO 58 1 rfl rfl ?_))))))))
  obtain rfl:=ae J
  exact aC (Gw (.inr rfl) [(vL Log_.enc f.1)] _ [0] [aA 0] ⟨rfl,trivial⟩ (.cons (oh rfl rfl) (.nil)) (by kernel_rfl) ⟨(by kernel_rfl),trivial⟩ (by decide) (by kernel_rfl))
theorem qQ {z:Stream} {r:(List Beat)×Stream} (B:iT z=some r) :
  FnM Tryz.prog 5 [(.ref (aA 0) 0 0)] [(.cells 2 [(vL eI z.L),(vI z.f_at)])] (vL Beat.enc r.1) [some (.cells 2 [(vL eI r.2.L),(vI r.2.f_at)])]:=by
 refine FnM.of_wH ⟨Tryz.prog,42,[],[]⟩ rfl Tryz.func5 rfl rfl (lb_ rfl) (by kernel_rfl) ?_
 unfold iT at B
 refine ai (aa .nil (af (ai (aa .nil (af (ak (ai (eu (([(⟨#[112,97]⟩:ByteArray),(⟨#[112,98]⟩:ByteArray)]:List ByteArray).map eS) rF IP rfl rfl rfl rfl rfl wz (bA vk rfl wz (aa (vI 0) (af (iM (λZ => ?_)))))))))))))
 obtain ⟨À,E,B⟩:=bind_some B
 obtain ⟨Q,E⟩:=aY E
 refine iw (σ:=(List Beat)×(List Int)×Int) (N:=Nm) (λp=>(λ(b:(List Beat)×(List Int)×Int) (c:Nm)=>([(3,(gV c 3 b.1))]:SL_)) p.1 p.2) (λp=>(λ(b:(List Beat)×(List Int)×Int) (c:Nm)=>([((aA 0),some (.cells 2 [(vL eI b.2.1),(vI b.2.2)])),(c,gB 3 Beat.enc b.1)]:Hp)) p.1 p.2) (λ(j:Nat)=>(λp=>(λ(b:(List Beat)×(List Int)×Int) (c:Nm)=>([(0,(.ref (aA 0) 0 0)),(3,(gV c 3 b.1)),(8,(vL eS ([(⟨#[112,97]⟩:ByteArray),(⟨#[112,98]⟩:ByteArray)]:List ByteArray))),(9,(vI (([(⟨#[112,97]⟩:ByteArray),(⟨#[112,98]⟩:ByteArray)]:List ByteArray).length:Int))),(10,(vI (j:Int)))]:SL_)) p.1 p.2)) (λk x s=>iU k x s) À ([(⟨#[112,97]⟩:ByteArray),(⟨#[112,98]⟩:ByteArray)]:List ByteArray) ((([]:List Beat),z.L,z.f_at),Z) E rfl (aG rfl) ?_ ?_
 ·rintro ⟨j,K,b,c⟩ ⟨u,n⟩
  dsimp only at u n
  cases K with
  | nil =>
   obtain rfl:=ae u
   refine ai (aa (vB (decide ((j:Int)<(([(⟨#[112,97]⟩:ByteArray),(⟨#[112,98]⟩:ByteArray)]:List ByteArray).length:Int)))) (af ?_))
   refine ak (ax rfl (drop_nil n) (aU ?_))
   exact aW (b,c) rfl rfl (aG rfl)
  | cons m K =>
   obtain ⟨O,e,u⟩:=bind_some u
   refine ai (aa (vB (decide ((j:Int)<(([(⟨#[112,97]⟩:ByteArray),(⟨#[112,98]⟩:ByteArray)]:List ByteArray).length:Int)))) (af ?_))
   refine ak (ay rfl (bu n) (av ?_))
   unfold iU at e
   refine ak (aM (ai (dC rF rfl rfl (bI n) rfl wz (bE sz9 ag9 rfl (vS m) rfl wz (aa (vS m) (af (ai (aa (.ref (aA 0) 0 0) ?_))))))))
   obtain ⟨w,R,e⟩:=bind_some e
   refine gm 0 [0] il ft (kZ R) rfl Te rfl (by kernel_rfl) (by kernel_rfl) (by kernel_rfl) (by kernel_rfl) (by kernel_rfl) (by kernel_rfl) (by kernel_rfl) (by decide) (by kernel_rfl) wz (vI w.1) (by kernel_rfl) ([((aA 0),some (.cells 2 [(vL eI w.2.L),(vI w.2.f_at)])),(c,gB 3 Beat.enc b.1)]:Hp) (by kernel_rfl) (aa (.ref (aA 0) 0 0) ?_)
   obtain ⟨y,T,e⟩:=bind_some e
   refine gm 0 [0] il ft (kZ T) rfl Te rfl (by kernel_rfl) (by kernel_rfl) (by kernel_rfl) (by kernel_rfl) (by kernel_rfl) (by kernel_rfl) (by kernel_rfl) (by decide) (by kernel_rfl) wz (vI y.1) (by kernel_rfl) ([((aA 0),some (.cells 2 [(vL eI y.2.L),(vI y.2.f_at)])),(c,gB 3 Beat.enc b.1)]:Hp) (by kernel_rfl) (aa (vI w.1) (aa (vI y.1) (af (ai (aa (.ref (aA 0) 0 0) ?_)))))
   obtain ⟨g,U,e⟩:=bind_some e
   refine gm 0 [0] il ft (kZ U) rfl Te rfl (by kernel_rfl) (by kernel_rfl) (by kernel_rfl) (by kernel_rfl) (by kernel_rfl) (by kernel_rfl) (by kernel_rfl) (by decide) (by kernel_rfl) wz (vI g.1) (by kernel_rfl) ([((aA 0),some (.cells 2 [(vL eI g.2.L),(vI g.2.f_at)])),(c,gB 3 Beat.enc b.1)]:Hp) (by kernel_rfl) (aa (vI 0) (af ?_))
   obtain ⟨Á,F,e⟩:=bind_some e
   obtain ⟨P,F⟩:=aY F
   refine iw (σ:=(List Beat)×Int×Int×(List Int)×Int) (N:=Nm) (λp=>(λ(a:(List Beat)×Int×Int×(List Int)×Int) (f:Nm)=>([(0,(.ref (aA 0) 0 0)),(3,(gV f 3 a.1)),(8,(vL eS ([(⟨#[112,97]⟩:ByteArray),(⟨#[112,98]⟩:ByteArray)]:List ByteArray))),(9,(vI (([(⟨#[112,97]⟩:ByteArray),(⟨#[112,98]⟩:ByteArray)]:List ByteArray).length:Int))),(10,(vI (j:Int)))]:SL_)) p.1 p.2) (λp=>(λ(a:(List Beat)×Int×Int×(List Int)×Int) (f:Nm)=>([((aA 0),some (.cells 2 [(vL eI a.2.2.2.1),(vI a.2.2.2.2)])),(f,gB 3 Beat.enc a.1)]:Hp)) p.1 p.2) (λ(o:Nat)=>(λp=>(λ(a:(List Beat)×Int×Int×(List Int)×Int) (f:Nm)=>([(0,(.ref (aA 0) 0 0)),(3,(gV f 3 a.1)),(5,(vS m)),(6,(vI a.2.1)),(7,(vI a.2.2.1)),(8,(vL eS ([(⟨#[112,97]⟩:ByteArray),(⟨#[112,98]⟩:ByteArray)]:List ByteArray))),(9,(vI (([(⟨#[112,97]⟩:ByteArray),(⟨#[112,98]⟩:ByteArray)]:List ByteArray).length:Int))),(10,(vI (j:Int))),(19,(vI g.1)),(20,(vI (o:Int)))]:SL_)) p.1 p.2)) (λk x s=>iX m k x s) Á (List.range (g.1).toNat) ((b.1,w.1,y.1,g.2.L,g.2.f_at),c) F rfl (aG rfl) ?_ ?_
   ·rintro ⟨o,J,a,f⟩ ⟨v,t⟩
    dsimp only at v t
    cases J with
    | nil =>
     obtain rfl:=ae v
     refine ai (aa (vB (decide ((o:Int)<g.1))) (af ?_))
     refine ak (ax rfl (lH t) (aU ?_))
     exact aW (a,f) rfl rfl (aG rfl)
    | cons Ã J =>
     obtain ⟨O,h,v⟩:=bind_some v
     refine ai (aa (vB (decide ((o:Int)<g.1))) (af ?_))
     refine ak (ay rfl (jZ t) (av ?_))
     unfold iX at h
     refine ak (aM (ai (aa (gV f 3 a.1) (aa (vS m) (aa (vI a.2.1) (aa (vI a.2.2.1) (aL (.d (.agg (Beat.enc (⟨m,a.2.1,a.2.2.1⟩:Beat)))) wz (by kernel_rfl) (eu (([(⟨m,a.2.1,a.2.2.1⟩:Beat)]:List Beat).map Beat.enc) K3 ez28 rfl rfl rfl rfl rfl wz ?_))))))))
     obtain ⟨A,Y,h⟩:=bind_some h
     refine jF 0 il ft (i:=1) el28 el28 K9 z66 rfl (by decide) by66 (by decide) (λ_=>rfl) rfl rfl rfl Y wz (λC=>aa (gV C 3 A) (af (ai (aa (vI a.2.1) (aa (.ref (aA 0) 0 0) (eu (([1,50,100,1000,2678400000]:List Int).map eI) pQ zP rfl rfl rfl rfl rfl wz ?_))))))
     obtain ⟨q,W,h⟩:=bind_some h
     refine gm 0 [0] il ft (gZ W) rfl Mm rfl (by kernel_rfl) (by kernel_rfl) (by kernel_rfl) (by kernel_rfl) (by kernel_rfl) (by kernel_rfl) (by kernel_rfl) (by decide) (by kernel_rfl) wz (vI q.1) (by kernel_rfl) ([((aA 0),some (.cells 2 [(vL eI q.2.L),(vI q.2.f_at)])),(C,gB 3 Beat.enc A)]:Hp) (by kernel_rfl) (aa (vI (w64 (a.2.1+q.1))) (aa (vI (w64 (a.2.1+q.1))) (af (au (aa (vI a.2.2.1) (aa (.ref (aA 0) 0 0) (eu (([1,40,100,1300,2592000000]:List Int).map eI) pQ zP rfl rfl rfl rfl rfl wz ?_)))))))
     obtain ⟨l,X,h⟩:=bind_some h
     refine gm 0 [0] il ft (gZ X) rfl Mm rfl (by kernel_rfl) (by kernel_rfl) (by kernel_rfl) (by kernel_rfl) (by kernel_rfl) (by kernel_rfl) (by kernel_rfl) (by decide) (by kernel_rfl) wz (vI l.1) (by kernel_rfl) ([((aA 0),some (.cells 2 [(vL eI l.2.L),(vI l.2.f_at)])),(C,gB 3 Beat.enc A)]:Hp) (by kernel_rfl) (aa (vI (w64 (a.2.2.1+l.1))) (aa (vI (w64 (a.2.2.1+l.1))) (af (au (dH (lF t P) wz rfl (aa (vI ((o+1:Nat):Int)) (af ?_)))))))
     obtain rfl:=ae h
     exact aV (o+1,J,(A,(w64 (a.2.1+q.1)),(w64 (a.2.2.1+l.1)),l.2.L,l.2.f_at),C) ⟨v,aX t⟩ (ls_ _) rfl (aG rfl)
   ·rintro ⟨a,f⟩ G Â M H I
    subst G
    refine aO _ H I (au (dH (bz n Q) wz rfl (aa (vI ((j+1:Nat):Int)) (af ?_))))
    obtain rfl:=ae e
    exact aV (j+1,K,(a.1,a.2.2.2.1,a.2.2.2.2),f) ⟨u,aX n⟩ (ls_ _) rfl (aG rfl)
 ·rintro ⟨b,c⟩ G Â M H I
  subst G
  refine aO _ H I (ai (aa (gV c 3 b.1) (aa (gV c 3 b.1) (af (iq 1 rfl (cO 2 1 rfl rfl (cO 3 1 rfl rfl (cO 41 1 rfl rfl ?_))))))))
  obtain rfl:=ae B
  exact aC (Gw (.inr rfl) [(vL Beat.enc b.1)] _ [0] [aA 0] ⟨rfl,trivial⟩ (.cons (oh rfl rfl) (.nil)) (by kernel_rfl) ⟨(by kernel_rfl),trivial⟩ (by decide) (by kernel_rfl))
theorem q8 {A:Stream} {q:Int} {r:(List Play)×Stream} (B:ja A q=some r) :
  FnM Tryz.prog 6 [(.ref (aA 0) 0 0),(vI q)] [(.cells 2 [(vL eI A.L),(vI A.f_at)])] (vL Play.enc r.1) [some (.cells 2 [(vL eI r.2.L),(vI r.2.f_at)])]:=by
 refine FnM.of_wH ⟨Tryz.prog,45,[],[]⟩ rfl Tryz.func6 rfl rfl (lb_ rfl) (by kernel_rfl) ?_
 unfold ja at B
 refine ai (aa .nil (af (ai (aa .nil (af (ak (ai (eu (([(⟨#[112,97]⟩:ByteArray),(⟨#[112,98]⟩:ByteArray)]:List ByteArray).map eS) rF IP rfl rfl rfl rfl rfl wz (bA vk rfl wz (aa (vI 0) (af (iM (λÁ => ?_)))))))))))))
 obtain ⟨Â,C,B⟩:=bind_some B
 obtain ⟨R,C⟩:=aY C
 refine iw (σ:=(List Play)×(List Int)×Int) (N:=Nm) (λp=>(λ(b:(List Play)×(List Int)×Int) (c:Nm)=>([(5,(gV c 4 b.1))]:SL_)) p.1 p.2) (λp=>(λ(b:(List Play)×(List Int)×Int) (c:Nm)=>([((aA 0),some (.cells 2 [(vL eI b.2.1),(vI b.2.2)])),(c,gB 4 Play.enc b.1)]:Hp)) p.1 p.2) (λ(l:Nat)=>(λp=>(λ(b:(List Play)×(List Int)×Int) (c:Nm)=>([(0,(.ref (aA 0) 0 0)),(1,(vI q)),(5,(gV c 4 b.1)),(10,(vL eS ([(⟨#[112,97]⟩:ByteArray),(⟨#[112,98]⟩:ByteArray)]:List ByteArray))),(11,(vI (([(⟨#[112,97]⟩:ByteArray),(⟨#[112,98]⟩:ByteArray)]:List ByteArray).length:Int))),(12,(vI (l:Int)))]:SL_)) p.1 p.2)) (λk x s=>dY q k x s) Â ([(⟨#[112,97]⟩:ByteArray),(⟨#[112,98]⟩:ByteArray)]:List ByteArray) ((([]:List Play),A.L,A.f_at),Á) C rfl (aG rfl) ?_ ?_
 ·rintro ⟨l,J,b,c⟩ ⟨w,t⟩
  dsimp only at w t
  cases J with
  | nil =>
   obtain rfl:=ae w
   refine ai (aa (vB (decide ((l:Int)<(([(⟨#[112,97]⟩:ByteArray),(⟨#[112,98]⟩:ByteArray)]:List ByteArray).length:Int)))) (af ?_))
   refine ak (ax rfl (drop_nil t) (aU ?_))
   exact aW (b,c) rfl rfl (aG rfl)
  | cons g J =>
   obtain ⟨P,j,w⟩:=bind_some w
   refine ai (aa (vB (decide ((l:Int)<(([(⟨#[112,97]⟩:ByteArray),(⟨#[112,98]⟩:ByteArray)]:List ByteArray).length:Int)))) (af ?_))
   refine ak (ay rfl (bu t) (av ?_))
   unfold dY at j
   refine ak (aM (ai (dC rF rfl rfl (bI t) rfl wz (bE sz9 ag9 rfl (vS g) rfl wz (aa (vS g) (af (ai (aa (.ref (aA 0) 0 0) (eu (([0,5,86399990]:List Int).map eI) pQ zP rfl rfl rfl rfl rfl wz ?_)))))))))
   obtain ⟨z,T,j⟩:=bind_some j
   refine gm 0 [0] il ft (gZ T) rfl Mm rfl (by kernel_rfl) (by kernel_rfl) (by kernel_rfl) (by kernel_rfl) (by kernel_rfl) (by kernel_rfl) (by kernel_rfl) (by decide) (by kernel_rfl) wz (vI z.1) (by kernel_rfl) ([((aA 0),some (.cells 2 [(vL eI z.2.L),(vI z.2.f_at)])),(c,gB 4 Play.enc b.1)]:Hp) (by kernel_rfl) (aa (vI z.1) (af (ai (aa (.ref (aA 0) 0 0) (aa (vI q) ?_)))))
   obtain ⟨h,U,j⟩:=bind_some j
   refine gm 0 [0] il ft (kZ U) rfl Te rfl (by kernel_rfl) (by kernel_rfl) (by kernel_rfl) (by kernel_rfl) (by kernel_rfl) (by kernel_rfl) (by kernel_rfl) (by decide) (by kernel_rfl) wz (vI h.1) (by kernel_rfl) ([((aA 0),some (.cells 2 [(vL eI h.2.L),(vI h.2.f_at)])),(c,gB 4 Play.enc b.1)]:Hp) (by kernel_rfl) (aa (vI 0) (af ?_))
   obtain ⟨Ã,E,j⟩:=bind_some j
   obtain ⟨Q,E⟩:=aY E
   refine iw (σ:=(List Play)×Int×(List Int)×Int) (N:=Nm) (λp=>(λ(a:(List Play)×Int×(List Int)×Int) (e:Nm)=>([(0,(.ref (aA 0) 0 0)),(1,(vI q)),(5,(gV e 4 a.1)),(10,(vL eS ([(⟨#[112,97]⟩:ByteArray),(⟨#[112,98]⟩:ByteArray)]:List ByteArray))),(11,(vI (([(⟨#[112,97]⟩:ByteArray),(⟨#[112,98]⟩:ByteArray)]:List ByteArray).length:Int))),(12,(vI (l:Int)))]:SL_)) p.1 p.2) (λp=>(λ(a:(List Play)×Int×(List Int)×Int) (e:Nm)=>([((aA 0),some (.cells 2 [(vL eI a.2.2.1),(vI a.2.2.2)])),(e,gB 4 Play.enc a.1)]:Hp)) p.1 p.2) (λ(u:Nat)=>(λp=>(λ(a:(List Play)×Int×(List Int)×Int) (e:Nm)=>([(0,(.ref (aA 0) 0 0)),(1,(vI q)),(5,(gV e 4 a.1)),(7,(vS g)),(8,(vI a.2.1)),(10,(vL eS ([(⟨#[112,97]⟩:ByteArray),(⟨#[112,98]⟩:ByteArray)]:List ByteArray))),(11,(vI (([(⟨#[112,97]⟩:ByteArray),(⟨#[112,98]⟩:ByteArray)]:List ByteArray).length:Int))),(12,(vI (l:Int))),(21,(vI h.1)),(22,(vI (u:Int)))]:SL_)) p.1 p.2)) (λk x s=>fM g k x s) Ã (List.range (h.1).toNat) ((b.1,z.1,h.2.L,h.2.f_at),c) E rfl (aG rfl) ?_ ?_
   ·rintro ⟨u,I,a,e⟩ ⟨y,v⟩
    dsimp only at y v
    cases I with
    | nil =>
     obtain rfl:=ae y
     refine ai (aa (vB (decide ((u:Int)<h.1))) (af ?_))
     refine ak (ax rfl (lH v) (aU ?_))
     exact aW (a,e) rfl rfl (aG rfl)
    | cons Å I =>
     obtain ⟨P,f,y⟩:=bind_some y
     refine ai (aa (vB (decide ((u:Int)<h.1))) (af ?_))
     refine ak (ay rfl (jZ v) (av ?_))
     unfold fM at f
     refine ak (aM (ai (aa (vS g) (aa (.ref (aA 0) 0 0) (eu (([(⟨#[105,97]⟩:ByteArray),(⟨#[105,98]⟩:ByteArray)]:List ByteArray).map eS) rF IP rfl rfl rfl rfl rfl wz ?_)))))
     obtain ⟨m,W,f⟩:=bind_some f
     refine gm 0 [0] il ft (xw W) rfl hb26 rfl (by kernel_rfl) (by kernel_rfl) (by kernel_rfl) (by kernel_rfl) (by kernel_rfl) (by kernel_rfl) (by kernel_rfl) (by decide) (by kernel_rfl) wz (vS m.1) (by kernel_rfl) ([((aA 0),some (.cells 2 [(vL eI m.2.L),(vI m.2.f_at)])),(e,gB 4 Play.enc a.1)]:Hp) (by kernel_rfl) (aa (vI a.2.1) (aa (.ref (aA 0) 0 0) (eu (([1,5,10,20]:List Int).map eI) pQ zP rfl rfl rfl rfl rfl wz ?_)))
     obtain ⟨n,X,f⟩:=bind_some f
     refine gm 0 [0] il ft (gZ X) rfl Mm rfl (by kernel_rfl) (by kernel_rfl) (by kernel_rfl) (by kernel_rfl) (by kernel_rfl) (by kernel_rfl) (by kernel_rfl) (by decide) (by kernel_rfl) wz (vI n.1) (by kernel_rfl) ([((aA 0),some (.cells 2 [(vL eI n.2.L),(vI n.2.f_at)])),(e,gB 4 Play.enc a.1)]:Hp) (by kernel_rfl) (aL (.d (.agg (Play.enc (⟨g,m.1,a.2.1,n.1⟩:Play)))) wz (by kernel_rfl) (dA 0 (.inl rfl) z42 rfl wz (λÀ=>jw 0 il ft 2 zV rfl rfl [(vS g),(vS m.1),(vI a.2.1),(vI n.1)] rfl wz (af (ai (aa (vI a.2.1) (aa (.ref (aA 0) 0 0) (eu (([1,5,10,30]:List Int).map eI) pQ zP rfl rfl rfl rfl rfl wz ?_))))))))
     obtain ⟨o,Y,f⟩:=bind_some f
     refine gm 0 [0] il ft (gZ Y) rfl Mm rfl (by kernel_rfl) (by kernel_rfl) (by kernel_rfl) (by kernel_rfl) (by kernel_rfl) (by kernel_rfl) (by kernel_rfl) (by decide) (by kernel_rfl) wz (vI o.1) (by kernel_rfl) ([((aA 0),some (.cells 2 [(vL eI o.2.L),(vI o.2.f_at)])),(e,gB 4 Play.enc a.1),(À,some (.cells 4 [(vS g),(vS m.1),(vI a.2.1),(vI n.1)]))]:Hp) (by kernel_rfl) (aa (vI (w64 (a.2.1+o.1))) (aa (vI (w64 (a.2.1+o.1))) (af (au (aa (gV e 4 a.1) (aI 0 2 il ft zV Jk rfl rfl (.d (.agg (Play.enc (⟨g,m.1,a.2.1,n.1⟩:Play)))) rfl wz (eu (([(⟨g,m.1,a.2.1,n.1⟩:Play)]:List Play).map Play.enc) IM ez30 rfl rfl rfl rfl rfl wz ?_)))))))
     obtain ⟨K,Z,f⟩:=bind_some f
     refine jF 0 il ft (i:=1) el30 el30 zV z42 rfl (by decide) by42 (by decide) (λ_=>rfl) rfl rfl rfl Z wz (λM=>aa (gV M 4 K) (af (au (dH (lF v Q) wz rfl (aa (vI ((u+1:Nat):Int)) (af ?_))))))
     obtain rfl:=ae f
     exact aV (u+1,I,(K,(w64 (a.2.1+o.1)),o.2.L,o.2.f_at),M) ⟨y,aX v⟩ (ls_ _) rfl (aG rfl)
   ·rintro ⟨a,e⟩ F Ä O G H
    subst F
    refine aO _ G H (au (dH (bz t R) wz rfl (aa (vI ((l+1:Nat):Int)) (af ?_))))
    obtain rfl:=ae j
    exact aV (l+1,J,(a.1,a.2.2.1,a.2.2.2),e) ⟨w,aX t⟩ (ls_ _) rfl (aG rfl)
 ·rintro ⟨b,c⟩ F Ä O G H
  subst F
  refine aO _ G H (ai (aa (gV c 4 b.1) (aa (gV c 4 b.1) (af (iq 1 rfl (cO 4 1 rfl rfl (cO 5 1 rfl rfl (cO 44 1 rfl rfl ?_))))))))
  obtain rfl:=ae B
  exact aC (Gw (.inr rfl) [(vL Play.enc b.1)] _ [0] [aA 0] ⟨rfl,trivial⟩ (.cons (oh rfl rfl) (.nil)) (by kernel_rfl) ⟨(by kernel_rfl),trivial⟩ (by decide) (by kernel_rfl))
theorem eU {e:ByteArray} {r:Bool} (g:dX e=some r) :
  FnM Tryz.prog 66 [(vS e)] [] (vB r) []:=by
 refine FnM.of_wH ⟨Tryz.prog,48,[],[]⟩ rfl Tryz.func66 rfl rfl (lb_ rfl) (by kernel_rfl) ?_
 unfold dX at g
 refine ai (aa (vB false) (af (ak (ai (aa (vI 0) (af ?_))))))
 obtain ⟨L,E,g⟩:=bind_some g
 obtain ⟨K,E⟩:=bv E
 refine cB (λ(c:Int)=>[(0,(vS e))]) (λ(c:Int)=>[]) (λ(l:Nat)=>(λ(c:Int)=>[(0,(vS e)),(3,(vI c))])) (λs=>lM e s) L K 0 E rfl (aG rfl) ?_ ?_
 ·rintro ⟨l,c⟩ h
  dsimp only at h
  cases l with
  | zero=>cases h
  | succ l =>
   obtain ⟨N,f,h⟩:=bind_some h
   unfold lM at f
   refine ak (ai (aa (vI c) (aa (vS e) (Cj un9 rfl wz (aa (vB (decide (c<(e.size:Int)))) (af ?_))))))
   rcases aj f with⟨m,f⟩|⟨m,f⟩
   ·refine ay rfl m (av (ak (aM (ai (aa (vS e) (aa (vI c) ?_))))))
    obtain ⟨a,J,f⟩:=bind_some f
    refine zg un9 rfl rfl J wz (aa (.d (.int .u8 (a.toNat:Int))) (af (ak ?_)))
    obtain ⟨M,b,f⟩:=bind_some f
    refine aR [(0,(vS e)),(3,(vI c)),(40,(vB M))] [] ?_ ?_
    ·refine au (aa (.d (.int .u8 (a.toNat:Int))) (aa (vB (decide ((a.toNat:Int)>=97))) ?_))
     rcases aj b with⟨n,b⟩|⟨n,b⟩
     ·refine aH rfl n wz (aL (.d (.int .u8 (a.toNat:Int))) wa rfl (aL (vB (decide ((a.toNat:Int)<=122))) wa rfl (aa (vB (decide ((a.toNat:Int)<=122))) ?_)))
      rcases aj b with⟨o,b⟩|⟨o,b⟩
      ·refine aH rfl o wz (ah (ah (ah (dK (wn rfl rfl) (dK (wn rfl rfl) (dK (wn rfl rfl) (dK (wn rfl rfl) (dK (wn rfl rfl) (dK (wn rfl rfl) (dK (wn rfl rfl) (dK (wn rfl rfl) (dK (wn rfl rfl) (dK (wn rfl rfl) (dK (wn rfl rfl) (dK (wn rfl rfl) (dK (wn rfl rfl) (dK (wn rfl rfl) (ah (aa (vB true) (aa (vB false) (af ?_)))))))))))))))))))))
       obtain rfl:=ae b
       exact cu
      ·refine aH rfl o wz (aL (vI c) wa rfl (aL (vB (decide (c>0))) wa rfl ?_))
       rcases aj b with⟨p,b⟩|⟨p,b⟩
       ·refine aH rfl p wa (aL (.d (.int .u8 (a.toNat:Int))) wa rfl (aL (vB (decide ((a.toNat:Int)>=48))) wa rfl ?_))
        rcases aj b with⟨q,b⟩|⟨q,b⟩
        ·refine aH rfl q wa (aL (.d (.int .u8 (a.toNat:Int))) wa rfl (aL (vB (decide ((a.toNat:Int)<=57))) wa rfl (aL (vB (decide ((a.toNat:Int)<=57))) wa rfl ?_)))
         rcases aj b with⟨t,b⟩|⟨t,b⟩
         ·refine aH rfl t wa (ah (ah (aL (vB true) wa rfl (aL (vB true) wa rfl (ah (ah (aL (vB true) wa rfl (aL (vB true) wa rfl (aa (vB true) (aa (vB false) (af ?_)))))))))))
          obtain rfl:=ae b
          exact cu
         ·refine aH rfl t wa (aL (.d (.int .u8 (a.toNat:Int))) wa rfl (aL (vB ((a.toNat:Int)==45)) wa rfl (aL (vB ((a.toNat:Int)==45)) wa rfl ?_)))
          rcases aj b with⟨u,b⟩|⟨u,b⟩
          ·refine aH rfl u wa (ah (ah (aL (vB true) wa rfl (aL (vB true) wa rfl (aa (vB true) (aa (vB false) (af ?_)))))))
           obtain rfl:=ae b
           exact cu
          ·refine aH rfl u wa (aL (.d (.int .u8 (a.toNat:Int))) wa rfl (aL (vB ((a.toNat:Int)==95)) wa rfl (aL (vB ((a.toNat:Int)==95)) wa rfl (aL (vB ((a.toNat:Int)==95)) wa rfl (aa (vB ((a.toNat:Int)==95)) (aa (vB (!((a.toNat:Int)==95))) (af ?_)))))))
           obtain rfl:=ae b
           exact cu
        ·refine aH rfl q wa (ah (ah (aL (vB false) wa rfl (aL (vB false) wa rfl (aL (.d (.int .u8 (a.toNat:Int))) wa rfl (aL (vB ((a.toNat:Int)==45)) wa rfl (aL (vB ((a.toNat:Int)==45)) wa rfl ?_)))))))
         rcases aj b with⟨v,b⟩|⟨v,b⟩
         ·refine aH rfl v wa (ah (ah (aL (vB true) wa rfl (aL (vB true) wa rfl (aa (vB true) (aa (vB false) (af ?_)))))))
          obtain rfl:=ae b
          exact cu
         ·refine aH rfl v wa (aL (.d (.int .u8 (a.toNat:Int))) wa rfl (aL (vB ((a.toNat:Int)==95)) wa rfl (aL (vB ((a.toNat:Int)==95)) wa rfl (aL (vB ((a.toNat:Int)==95)) wa rfl (aa (vB ((a.toNat:Int)==95)) (aa (vB (!((a.toNat:Int)==95))) (af ?_)))))))
          obtain rfl:=ae b
          exact cu
       ·refine aH rfl p wa (ah (ah (ah (dK (wn rfl rfl) (dK (wn rfl rfl) (ah (ah (dK (wn rfl rfl) (dK (wn rfl rfl) (ah (ah (dK (wn rfl rfl) (dK (wn rfl rfl) (ah (aL (vB false) wa rfl (aa (vB false) (aa (vB true) (af ?_))))))))))))))))))
        obtain rfl:=ae b
        exact cu
     ·refine aH rfl n wz (ah (ah (aa (vB false) (aa (vB false) (aL (vI c) wa rfl (aL (vB (decide (c>0))) wa rfl ?_))))))
      rcases aj b with⟨w,b⟩|⟨w,b⟩
      ·refine aH rfl w wa (aL (.d (.int .u8 (a.toNat:Int))) wa rfl (aL (vB (decide ((a.toNat:Int)>=48))) wa rfl ?_))
       rcases aj b with⟨x,b⟩|⟨x,b⟩
       ·refine aH rfl x wa (aL (.d (.int .u8 (a.toNat:Int))) wa rfl (aL (vB (decide ((a.toNat:Int)<=57))) wa rfl (aL (vB (decide ((a.toNat:Int)<=57))) wa rfl ?_)))
        rcases aj b with⟨y,b⟩|⟨y,b⟩
        ·refine aH rfl y wa (ah (ah (aL (vB true) wa rfl (aL (vB true) wa rfl (ah (ah (aL (vB true) wa rfl (aL (vB true) wa rfl (aa (vB true) (aa (vB false) (af ?_)))))))))))
         obtain rfl:=ae b
         exact cu
        ·refine aH rfl y wa (aL (.d (.int .u8 (a.toNat:Int))) wa rfl (aL (vB ((a.toNat:Int)==45)) wa rfl (aL (vB ((a.toNat:Int)==45)) wa rfl ?_)))
         rcases aj b with⟨z,b⟩|⟨z,b⟩
         ·refine aH rfl z wa (ah (ah (aL (vB true) wa rfl (aL (vB true) wa rfl (aa (vB true) (aa (vB false) (af ?_)))))))
          obtain rfl:=ae b
          exact cu
         ·refine aH rfl z wa (aL (.d (.int .u8 (a.toNat:Int))) wa rfl (aL (vB ((a.toNat:Int)==95)) wa rfl (aL (vB ((a.toNat:Int)==95)) wa rfl (aL (vB ((a.toNat:Int)==95)) wa rfl (aa (vB ((a.toNat:Int)==95)) (aa (vB (!((a.toNat:Int)==95))) (af ?_)))))))
          obtain rfl:=ae b
          exact cu
       ·refine aH rfl x wa (ah (ah (aL (vB false) wa rfl (aL (vB false) wa rfl (aL (.d (.int .u8 (a.toNat:Int))) wa rfl (aL (vB ((a.toNat:Int)==45)) wa rfl (aL (vB ((a.toNat:Int)==45)) wa rfl ?_)))))))
        rcases aj b with⟨A,b⟩|⟨A,b⟩
        ·refine aH rfl A wa (ah (ah (aL (vB true) wa rfl (aL (vB true) wa rfl (aa (vB true) (aa (vB false) (af ?_)))))))
         obtain rfl:=ae b
         exact cu
        ·refine aH rfl A wa (aL (.d (.int .u8 (a.toNat:Int))) wa rfl (aL (vB ((a.toNat:Int)==95)) wa rfl (aL (vB ((a.toNat:Int)==95)) wa rfl (aL (vB ((a.toNat:Int)==95)) wa rfl (aa (vB ((a.toNat:Int)==95)) (aa (vB (!((a.toNat:Int)==95))) (af ?_)))))))
         obtain rfl:=ae b
         exact cu
      ·refine aH rfl w wa (ah (ah (ah (dK (wn rfl rfl) (dK (wn rfl rfl) (ah (ah (dK (wn rfl rfl) (dK (wn rfl rfl) (ah (ah (dK (wn rfl rfl) (dK (wn rfl rfl) (ah (aL (vB false) wa rfl (aa (vB false) (aa (vB true) (af ?_))))))))))))))))))
       obtain rfl:=ae b
       exact cu
    ·rintro ⟨⟩ _ G F j k
     refine aO _ j k ?_
     rcases aj f with⟨B,f⟩|⟨B,f⟩
     ·refine ay rfl B (ai (aa (vB false) (af ?_)))
      obtain rfl:=ae f
      obtain rfl:=ae h
      obtain rfl:=ae g
      exact aC (aN [(vB false)] ⟨rfl,trivial⟩)
     ·refine ax rfl B (av (au (aa (vI c) (aa (vI (w64 (c+1))) (aa (vI (w64 (c+1))) (af ?_))))))
      obtain rfl:=ae f
      exact aV (l,(w64 (c+1))) h (ls_ _) rfl (aG rfl)
   ·refine ax rfl m (aU ?_)
    obtain rfl:=ae f
    obtain rfl:=ae h
    exact aW (c) rfl rfl (aG rfl)
 ·rintro c I G F j k
  subst I
  refine aO _ j k (ak ?_)
  obtain ⟨H,i,g⟩:=bind_some g
  refine aR [(2,(vB H))] [] ?_ ?_
  ·refine au (aa (vS e) (aa (vB (sNe e (⟨#[]⟩:ByteArray))) ?_))
   rcases aj i with⟨C,i⟩|⟨C,i⟩
   ·refine aH rfl C wz (aL (vS e) wa rfl (Cj un9 rfl wa (aL (vB (decide ((e.size:Int)<=40))) wa rfl (aa (vB (decide ((e.size:Int)<=40))) (aa (vB (decide ((e.size:Int)<=40))) (af ?_))))))
    obtain rfl:=ae i
    exact cu
   ·refine aH rfl C wz (ah (ah (ah (aa (vB false) (aa (vB false) (af ?_))))))
    obtain rfl:=ae i
    exact cu
  ·rintro ⟨⟩ _ G F j k
   refine aO _ j k ?_
   obtain rfl:=ae g
   exact aC (aN [(vB H)] ⟨rfl,trivial⟩)
theorem bf {a:Int} {e:Int} {b:Int} {r:Bool} (d:aS a e b=some r) :
  FnM Tryz.prog 39 [(vI a),(vI e),(vI b)] [] (vB r) []:=by
 refine FnM.of_wH ⟨Tryz.prog,15,[],[]⟩ rfl Tryz.func39 rfl rfl (lb_ rfl) (by kernel_rfl) ?_
 unfold aS at d
 refine ai (aa (vB false) (af (ak ?_)))
 obtain ⟨g,c,d⟩:=bind_some d
 refine aR [(6,(vB g))] [] ?_ ?_
 ·refine au (aa (vI a) (aa (vI e) (aa (vB (decide (a<e))) ?_)))
  rcases aj c with⟨f,c⟩|⟨f,c⟩
  ·refine aH rfl f wz (ah (ah (ah (aa (vB true) (aa (vB true) (af ?_))))))
   obtain rfl:=ae c
   exact cu
  ·refine aH rfl f wz (aL (vI a) wa rfl (aL (vI b) wa rfl (aL (vB (decide (a>b))) wa rfl (aa (vB (decide (a>b))) (aa (vB (decide (a>b))) (af ?_))))))
   obtain rfl:=ae c
   exact cu
 ·rintro ⟨⟩ _ k j h i
  refine aO _ h i ?_
  obtain rfl:=ae d
  exact aC (aN [(vB g)] ⟨rfl,trivial⟩)
theorem xB {c:Log_} {r:Int} (b:mX c=some r) :
  FnM Tryz.prog 62 [(.d (.agg (Log_.enc c)))] [] (vI r) []:=by
 refine FnM.of_wH ⟨Tryz.prog,26,[],[]⟩ rfl Tryz.func62 rfl rfl (lb_ rfl) (by kernel_rfl) ?_
 unfold mX at b
 refine ai (ib 0 (.inl rfl) (Log_.v c) rfl rfl wz (λm=>aa (vI 0) (af (ak (ak ?_)))))
 obtain ⟨B,e,b⟩:=bind_some b
 refine aR [(1,(.ref m 0 0)),(12,(vB B))] [(m,some (.cells 6 (Log_.v c)))] ?_ ?_
 ·refine au (aK ze rfl 0 rfl wz (aI 0 0 il ft sz9 ag9 rfl rfl (vS c.Player) rfl wz ?_))
  obtain ⟨y,t,e⟩:=bind_some e
  refine aB (eU t) rfl CO rfl rfl rfl rfl wz (aa (vB (!y)) ?_)
  rcases aj e with⟨j,e⟩|⟨j,e⟩
  ·refine aH rfl j wz (ah (ah (ah (ah (aa (vB true) (af ?_))))))
   obtain rfl:=ae e
   exact cu
  ·refine aH rfl j wz (aK Lr rfl 1 rfl wa (aI 0 0 il ft sz9 ag9 rfl rfl (vS c.Item) rfl wa ?_))
   obtain ⟨n,u,e⟩:=bind_some e
   refine aB (eU u) rfl CO rfl rfl rfl rfl wa (aL (vB (!n)) wa rfl (aa (vB (!n)) (af ?_)))
   obtain rfl:=ae e
   exact cu
 ·rintro ⟨⟩ _ z o k l
  refine aO _ k l ?_
  rcases aj b with⟨f,b⟩|⟨f,b⟩
  ·refine ay rfl f (ai (aa (vI 5) (af ?_)))
   obtain rfl:=ae b
   exact aC (aN [(vI 5)] ⟨rfl,trivial⟩)
  ·refine ax rfl f (av (ak (ak ?_)))
   obtain ⟨A,a,b⟩:=bind_some b
   refine aR [(25,(vB A))] [(m,some (.cells 6 (Log_.v c)))] ?_ ?_
   ·refine au (aK H7 rfl 2 rfl wz (aI 0 0 il ft sz3 ag3 rfl rfl (vI c.No) rfl wz ?_))
    obtain ⟨C,p,a⟩:=bind_some a
    refine aB (bf p) rfl qc rfl rfl rfl rfl wz ?_
    rcases aj a with⟨g,a⟩|⟨g,a⟩
    ·refine aH rfl g wz (ah (ah (ah (aa (vB true) (aa (vB true) (ah (ah (ah (aa (vB true) (af ?_))))))))))
     obtain rfl:=ae a
     exact cu
    ·refine aH rfl g wz (aK GQ rfl 3 rfl wa (aI 0 0 il ft sz3 ag3 rfl rfl (vI c.Clock) rfl wa ?_))
     obtain ⟨w,q,a⟩:=bind_some a
     refine aB (bf q) rfl qc rfl rfl rfl rfl wa (aa (vB w) ?_)
     rcases aj a with⟨h,a⟩|⟨h,a⟩
     ·refine aH rfl h wz (ah (ah (ah (aa (vB true) (af ?_)))))
      obtain rfl:=ae a
      exact cu
     ·refine aH rfl h wz (aK K4 rfl 4 rfl wa (aI 0 0 il ft sz3 ag3 rfl rfl (vI c.Long) rfl wa ?_))
      obtain ⟨x,s,a⟩:=bind_some a
      refine aB (bf s) rfl qc rfl rfl rfl rfl wa (aa (vB x) (af ?_))
      obtain rfl:=ae a
      exact cu
   ·rintro ⟨⟩ _ z o k l
    refine aO _ k l ?_
    rcases aj b with⟨i,b⟩|⟨i,b⟩
    ·refine ay rfl i (ai (aa (vI 1) (af ?_)))
     obtain rfl:=ae b
     exact aC (aN [(vI 1)] ⟨rfl,trivial⟩)
    ·refine ax rfl i (av (ai (aa (vI 0) (af ?_))))
     obtain rfl:=ae b
     exact aC (aN [(vI 0)] ⟨rfl,trivial⟩)
theorem zC {x0:ByteArray} {x1:ByteArray} {r:ByteArray} (a:pJ x0 x1=some r) :
  FnM Tryz.prog 97 [(vS x0),(vS x1)] [] (vS r) [] :=
 SQ rfl Tryz.strings_Trim_ascii  a
theorem qB {b:ByteArray} {r:Bool} (c:lI b=some r) :
  FnM Tryz.prog 63 [(vS b)] [] (vB r) []:=by
 refine FnM.of_wH ⟨Tryz.prog,11,[],[]⟩ rfl Tryz.func63 rfl rfl (lb_ rfl) (by kernel_rfl) ?_
 unfold lI at c
 refine ai (aa (vB false) (af (ak ?_)))
 obtain ⟨f,a,c⟩:=bind_some c
 refine aR [(2,(vB f))] [] ?_ ?_
 ·refine au (aa (vS b) (Cj un9 rfl wz (aa (vB ((b.size:Int)==16)) ?_)))
  rcases aj a with⟨d,a⟩|⟨d,a⟩
  ·refine aH rfl d wz (aL (vS b) wa rfl ?_)
   obtain ⟨e,i,a⟩:=bind_some a
   refine aB (zC i) rfl hb97 rfl rfl rfl rfl wa (aL (vB (sEq e (⟨#[]⟩:ByteArray))) wa rfl (aa (vB (sEq e (⟨#[]⟩:ByteArray))) (aa (vB (sEq e (⟨#[]⟩:ByteArray))) (af ?_))))
   obtain rfl:=ae a
   exact cu
  ·refine aH rfl d wz (ah (ah (ah (aa (vB false) (aa (vB false) (af ?_))))))
   obtain rfl:=ae a
   exact cu
 ·rintro ⟨⟩ _ k j g h
  refine aO _ g h ?_
  obtain rfl:=ae c
  exact aC (aN [(vB f)] ⟨rfl,trivial⟩)
theorem rC {a:ByteArray} {b:ByteArray} {r:Int} (c:jM a b=some r) :
  FnM Tryz.prog 76 [(vS a),(vS b)] [] (vI r) []:=by
 refine FnM.of_wH ⟨Tryz.prog,8,[],[]⟩ rfl Tryz.func76 rfl rfl (lb_ rfl) (by kernel_rfl) ?_
 unfold jM at c
 refine ai (aa (vI 0) (af (ai (aa (vS a) (aa (vS b) (h_ext (UA (f:=120) Tryz.func120 rfl rfl (by kernel_rfl) (by kernel_rfl) _ _) rfl nb120 rfl wz (aa (vI (AB a b)) (af ?_))))))))
 obtain rfl:=ae c
 exact aC (aN [(vI (AB a b))] ⟨rfl,trivial⟩)
theorem jG {b:ByteArray} {c:ByteArray} {r:Int} (a:strings_Compare b c=some r) :
  FnM Tryz.prog 44 [(vS b),(vS c)] [] (vI r) []:=by
 refine FnM.of_wH ⟨Tryz.prog,8,[],[]⟩ rfl Tryz.func44 rfl rfl (lb_ rfl) (by kernel_rfl) ?_
 unfold strings_Compare at a
 refine ai (aa (vI 0) (af (ai (aa (vS b) (aa (vS c) ?_)))))
 obtain ⟨d,e,a⟩:=bind_some a
 refine aB (rC e) rfl hb76 rfl rfl rfl rfl wz (aa (vI d) (af ?_))
 obtain rfl:=ae a
 exact aC (aN [(vI d)] ⟨rfl,trivial⟩)
theorem pF {a:Int} {r:Bool} (b:cmp_isNaN_int a=some r) :
  FnM Tryz.prog 77 [(vI a)] [] (vB r) []:=by
 refine FnM.of_wH ⟨Tryz.prog,6,[],[]⟩ rfl Tryz.func77 rfl rfl (lb_ rfl) (by kernel_rfl) ?_
 unfold cmp_isNaN_int at b
 refine ai (aa (vB false) (af (ai (aa (vI a) (aa (vI a) (aa (vB (a != a)) (aa (vB (a != a)) (af ?_))))))))
 obtain rfl:=ae b
 exact aC (aN [(vB (a != a))] ⟨rfl,trivial⟩)
theorem jL {b:Int} {c:Int} {r:Int} (a:cmp_Compare_int b c=some r) :
  FnM Tryz.prog 45 [(vI b),(vI c)] [] (vI r) []:=by
 refine FnM.of_wH ⟨Tryz.prog,20,[],[]⟩ rfl Tryz.func45 rfl rfl (lb_ rfl) (by kernel_rfl) ?_
 unfold cmp_Compare_int at a
 refine ai (aa (vI 0) (af (ai (aa (vI b) ?_))))
 obtain ⟨j,k,a⟩:=bind_some a
 refine aB (pF k) rfl hb77 rfl rfl rfl rfl wz (aa (vB j) (af (ai (aa (vI c) ?_))))
 obtain ⟨i,l,a⟩:=bind_some a
 refine aB (pF l) rfl hb77 rfl rfl rfl rfl wz (aa (vB i) (af (ak (ai (aa (vB j) (af ?_))))))
 rcases aj a with⟨f,a⟩|⟨f,a⟩
 ·refine ay rfl f (ak (ai (aa (vB i) (af ?_))))
  rcases aj a with⟨g,a⟩|⟨g,a⟩
  ·refine ay rfl g (ai (aa (vI 0) (af ?_)))
   obtain rfl:=ae a
   exact aC (aN [(vI 0)] ⟨rfl,trivial⟩)
  ·refine ax rfl g (av (ai (aa (vI (-1)) (af ?_))))
   obtain rfl:=ae a
   exact aC (aN [(vI (-1))] ⟨rfl,trivial⟩)
 ·refine ax rfl f (av (ak (ai (aa (vB i) (af ?_)))))
  rcases aj a with⟨h,a⟩|⟨h,a⟩
  ·refine ay rfl h (ai (aa (vI 1) (af ?_)))
   obtain rfl:=ae a
   exact aC (aN [(vI 1)] ⟨rfl,trivial⟩)
  ·refine ax rfl h (av (ak (ai (aa (vI b) (aa (vI c) (aa (vB (decide (b<c))) (af ?_)))))))
   rcases aj a with⟨d,a⟩|⟨d,a⟩
   ·refine ay rfl d (ai (aa (vI (-1)) (af ?_)))
    obtain rfl:=ae a
    exact aC (aN [(vI (-1))] ⟨rfl,trivial⟩)
   ·refine ax rfl d (av (ak (ai (aa (vI b) (aa (vI c) (aa (vB (decide (b>c))) (af ?_)))))))
    rcases aj a with⟨e,a⟩|⟨e,a⟩
    ·refine ay rfl e (ai (aa (vI 1) (af ?_)))
     obtain rfl:=ae a
     exact aC (aN [(vI 1)] ⟨rfl,trivial⟩)
    ·refine ax rfl e (av (ai (aa (vI 0) (af ?_))))
     obtain rfl:=ae a
     exact aC (aN [(vI 0)] ⟨rfl,trivial⟩)
theorem qf {a:(List Int)} {r:Int} (g:kP a=some r) :
  FnM Tryz.prog 43 [(vL eI a)] [] (vI r) []:=by
 refine FnM.of_wH ⟨Tryz.prog,18,[],[]⟩ rfl Tryz.func43 rfl rfl (lb_ rfl) (by kernel_rfl) ?_
 unfold kP at g
 refine ai (aa (vI 0) (af (ai (aa (vI 0) (af (ak (ai (aa (vL eI a) (bA Ar rfl wz (aa (vI 0) (af ?_)))))))))))
 obtain ⟨q,j,g⟩:=bind_some g
 obtain ⟨m,j⟩:=aY j
 refine bN (λ(h:Unit)=>[(3,(vI 0))]) (λ(h:Unit)=>[]) (λ(f:Nat)=>(λ(h:Unit)=>[(3,(vI 0)),(6,(vL eI a)),(7,(vI (a.length:Int))),(8,(vI (f:Int)))])) (λk x s=>nT k x s) q a () j rfl (aG rfl) ?_ ?_
 ·rintro ⟨f,l,h⟩ ⟨d,c⟩
  dsimp only at d c
  cases l with
  | nil =>
   obtain rfl:=ae d
   refine ai (aa (vB (decide ((f:Int)<(a.length:Int)))) (af ?_))
   refine ak (ax rfl (drop_nil c) (aU ?_))
   exact aW (h) rfl rfl (aG rfl)
  | cons b l =>
   obtain ⟨u,e,d⟩:=bind_some d
   refine ai (aa (vB (decide ((f:Int)<(a.length:Int)))) (af ?_))
   refine ak (ay rfl (bu c) (av ?_))
   unfold nT at e
   refine ak (aM (ai (dC pQ rfl rfl (bI c) rfl wz (bE sz3 ag3 rfl (vI b) rfl wz (aa (vI b) (af (ai (aa (vI b) (aa (vI 0) (aa (vB (b != 0)) (af ?_)))))))))))
   rcases aj e with⟨i,e⟩|⟨i,e⟩
   ·refine ay rfl i (ai (aa (vI b) (aa (vI b) (af ?_))))
    obtain rfl:=ae e
    obtain rfl:=ae d
    obtain rfl:=ae g
    exact aC (aN [(vI b)] ⟨rfl,trivial⟩)
   ·refine ax rfl i (av (au (dH (bz c m) wz rfl (aa (vI ((f+1:Nat):Int)) (af ?_)))))
    obtain rfl:=ae e
    exact aV (f+1,l,()) ⟨d,aX c⟩ (ls_ _) rfl (aG rfl)
 ·rintro h n v t o p
  subst n
  refine aO _ o p (ai (aa (vI 0) (aa (vI 0) (af ?_))))
  obtain rfl:=ae g
  exact aC (aN [(vI 0)] ⟨rfl,trivial⟩)
theorem oJ {b:Log_} {c:Log_} {r:Int} (a:gW b c=some r) :
  FnM Tryz.prog 32 [(.d (.agg (Log_.enc b))),(.d (.agg (Log_.enc c)))] [] (vI r) []:=by
 refine FnM.of_wH ⟨Tryz.prog,17,[],[]⟩ rfl Tryz.func32 rfl rfl (lb_ rfl) (by kernel_rfl) ?_
 unfold gW at a
 refine ai (ib 0 (.inl rfl) (Log_.v b) rfl rfl wz (λk=>ib 0 (.inl rfl) (Log_.v c) rfl rfl wz (λl=>aa (vI 0) (af (ak (bg (aK ze rfl 0 rfl wz (aI 1 0 (.inr (by kernel_rfl)) (λ_ _ ag=>trivial) sz9 ag9 rfl rfl (vS b.Player) rfl wz (aK ze rfl 0 rfl wz (aI 3 1 (.inr (by kernel_rfl)) (λ_ _ ag=>⟨.inl ⟨rfl,rfl⟩,trivial⟩) sz9 ag9 rfl rfl (vS c.Player) rfl wz ?_))))))))))
 obtain ⟨i,g,a⟩:=bind_some a
 refine aB (jG g) rfl Rm rfl rfl rfl rfl wz (aK H7 rfl 2 rfl wz (aI 6 0 (.inr (by kernel_rfl)) (λ_ _ ag=>⟨.inl ⟨rfl,rfl⟩,⟨.inl ⟨rfl,rfl⟩,trivial⟩⟩) sz3 ag3 rfl rfl (vI b.No) rfl wz (aK H7 rfl 2 rfl wz (aI 8 1 (.inr (by kernel_rfl)) (λ_ _ ag=>⟨.inl ⟨rfl,rfl⟩,⟨.inl ⟨rfl,rfl⟩,⟨.inl ⟨rfl,rfl⟩,trivial⟩⟩⟩) sz3 ag3 rfl rfl (vI c.No) rfl wz ?_))))
 obtain ⟨j,h,a⟩:=bind_some a
 refine aB (jL h) rfl Ri rfl rfl rfl rfl wz (eu (([i,j]:List Int).map eI) pQ zP rfl rfl rfl rfl rfl wz ?_)
 obtain ⟨e,f,a⟩:=bind_some a
 refine aB (qf f) rfl TE rfl rfl rfl rfl wz (aa (vI e) (af ?_))
 obtain rfl:=ae a
 exact aC (aN [(vI e)] ⟨rfl,trivial⟩)
theorem nC {b:(List Log_)} {r:Int} (e:dW b=some r) :
  FnM Tryz.prog 29 [(vL Log_.enc b)] [] (vI r) []:=by
 refine FnM.of_wH ⟨Tryz.prog,38,[],[]⟩ rfl Tryz.func29 rfl rfl (lb_ rfl) (by kernel_rfl) ?_
 unfold dW at e
 refine ai (aa (vI 0) (af (ak (ai (aa (vL Log_.enc b) (bA uK rfl wz (aa (vB (decide ((b.length:Int)>2000))) (af ?_))))))))
 rcases aj e with⟨o,e⟩|⟨o,e⟩
 ·refine ay rfl o (ai (aa (vI 2) (af ?_)))
  obtain rfl:=ae e
  exact aC (aN [(vI 2)] ⟨rfl,trivial⟩)
 ·refine ax rfl o (av (ak (ai (aa (vL Log_.enc b) (bA uK rfl wz (aa (vI 0) (af ?_)))))))
  obtain ⟨J,t,e⟩:=bind_some e
  obtain ⟨B,t⟩:=aY t
  refine bN (λ(l:Unit)=>[]) (λ(l:Unit)=>[]) (λ(c:Nat)=>(λ(l:Unit)=>[(0,(vL Log_.enc b)),(9,(vL Log_.enc b)),(10,(vI (b.length:Int))),(11,(vI (c:Int)))])) (λk x s=>nG b k x s) J b () t rfl (aG rfl) ?_ ?_
  ·rintro ⟨c,y,l⟩ ⟨g,h⟩
   dsimp only at g h
   cases y with
   | nil =>
    obtain rfl:=ae g
    refine ai (aa (vB (decide ((c:Int)<(b.length:Int)))) (af ?_))
    refine ak (ax rfl (drop_nil h) (aU ?_))
    exact aW (l) rfl rfl (aG rfl)
   | cons j y =>
    obtain ⟨O,a,g⟩:=bind_some g
    refine ai (aa (vB (decide ((c:Int)<(b.length:Int)))) (af ?_))
    refine ak (ay rfl (bu h) (av ?_))
    unfold nG at a
    refine ak (aM (ai (aa (vI (c:Int)) (dC sG rfl rfl (bI h) rfl wz (bE lw rQ rfl (.d (.agg (Log_.enc j))) rfl wz (dA 0 (.inl rfl) z37 rfl wz (λI=>aa (vI (c:Int)) (jw 0 il ft 0 lw rfl rfl (Log_.v j) rfl wz (af (ak (ai (aI 0 0 il ft lw rQ rfl rfl (.d (.agg (Log_.enc j))) rfl wz ?_))))))))))))
    obtain ⟨i,E,a⟩:=bind_some a
    refine aB (xB E) rfl hb62 rfl rfl rfl rfl wz (aa (vI i) (af (ai (aa (vI i) (aa (vB (i != 0)) (af ?_))))))
    rcases aj a with⟨m,a⟩|⟨m,a⟩
    ·refine ay rfl m (ai (aa (vI i) (aa (vI i) (af ?_))))
     obtain rfl:=ae a
     obtain rfl:=ae g
     obtain rfl:=ae e
     exact aC (aN [(vI i)] ⟨rfl,trivial⟩)
    ·refine ax rfl m (av (ak (ai (aK GY rfl 5 rfl wz (aI 0 0 il ft sz9 ag9 rfl rfl (vS j.Sum) rfl wz ?_)))))
     obtain ⟨K,F,a⟩:=bind_some a
     refine aB (qB F) rfl hb63 rfl rfl rfl rfl wz (aa (vB (!K)) (af ?_))
     rcases aj a with⟨n,a⟩|⟨n,a⟩
     ·refine ay rfl n (ai (aa (vI 3) (af ?_)))
      obtain rfl:=ae a
      obtain rfl:=ae g
      obtain rfl:=ae e
      exact aC (aN [(vI 3)] ⟨rfl,trivial⟩)
     ·refine ax rfl n (av (ak ?_))
      obtain ⟨M,f,a⟩:=bind_some a
      refine aR [(0,(vL Log_.enc b)),(9,(vL Log_.enc b)),(10,(vI (b.length:Int))),(11,(vI (c:Int))),(36,(vB M))] [(I,some (.cells 6 (Log_.v j)))] ?_ ?_
      ·refine bg (aa (vI (c:Int)) (aa (vB (decide ((c:Int)>0))) ?_))
       rcases aj f with⟨p,f⟩|⟨p,f⟩
       ·refine aH rfl p wz (aL (vL Log_.enc b) wa rfl (aL (vI (c:Int)) wa rfl (aL (vI (w64 ((c:Int)-1))) wa rfl ?_)))
        obtain ⟨N,H,f⟩:=bind_some f
        refine dC sG rfl rfl H rfl wa (bE lw rQ rfl (.d (.agg (Log_.enc N))) rfl wa (aI 8 0 (.inr (by kernel_rfl)) (λ_ _ ag=>trivial) lw rQ rfl rfl (.d (.agg (Log_.enc j))) rfl wa ?_))
        obtain ⟨z,G,f⟩:=bind_some f
        refine aB (oJ G) rfl hb32 rfl rfl rfl rfl wa (aL (vB (decide (z>=0))) wa rfl (aa (vB (decide (z>=0))) (af ?_)))
        obtain rfl:=ae f
        exact cu
       ·refine aH rfl p wz (ah (ah (ah (ah (ah (ah (ah (ah (aa (vB false) (af ?_))))))))))
        obtain rfl:=ae f
        exact cu
      ·rintro ⟨⟩ _ L A u w
       refine aO _ u w ?_
       rcases aj a with⟨q,a⟩|⟨q,a⟩
       ·refine ay rfl q (ai (aa (vI 7) (af ?_)))
        obtain rfl:=ae a
        obtain rfl:=ae g
        obtain rfl:=ae e
        exact aC (aN [(vI 7)] ⟨rfl,trivial⟩)
       ·refine ax rfl q (av (au (dH (bz h B) wz rfl (aa (vI ((c+1:Nat):Int)) (af ?_)))))
        obtain rfl:=ae a
        exact aV (c+1,y,()) ⟨g,aX h⟩ (ls_ _) rfl (aG rfl)
  ·rintro l C L A u w
   subst C
   refine aO _ u w (ai (aa (vI 0) (af ?_)))
   obtain rfl:=ae e
   exact aC (aN [(vI 0)] ⟨rfl,trivial⟩)
theorem si {b:Int} {r:Bool} (a:eO b=some r) :
  FnM Tryz.prog 64 [.nil,(vI b)] [] (kV r (aA 0) 6 ([]:List Log_)) (kO r 6):=by
 refine FnM.of_wH ⟨Tryz.prog,27,[],[]⟩ rfl Tryz.func64 rfl rfl (lb_ rfl) (by kernel_rfl) ?_
 unfold eO at a
 refine ai (aa .nil (af (ak (ai (aa (vI b) (aa (vB (decide (b<0))) (af ?_)))))))
 rcases aj a with⟨c,a⟩|⟨c,a⟩
 ·refine ay rfl c (au ?_)
  cases a
 ·refine ax rfl c (av (ak (ai (aa (vI b) (aa .nil (K8 MC rfl wz (aa .nil (Lp uK rfl wz (aa (vI (w64 (0-0))) (aa (vI (w64 (b-(w64 (0-0))))) (aa (vI (w64 (b-(w64 (0-0))))) (af (ai (aa (vI (w64 (b-(w64 (0-0))))) (aa (vB (decide ((w64 (b-(w64 (0-0))))>0))) (af ?_))))))))))))))))
  rcases aj a with⟨d,a⟩|⟨d,a⟩
  ·refine ay rfl d (au (aa .nil (aa .nil (K8 MC rfl wz (aL .nil wz (by kernel_rfl) (aa (vI (w64 (b-(w64 (0-0))))) ?_))))))
   obtain ⟨_,f,a⟩:=bind_some a
   refine UB (enc:=Log_.enc) 0 (.inl rfl) MC (by kernel_rfl) lw z37 rfl (by decide) by37 rfl rfl f wz (λe=>aa .nil (Lp uK rfl wz (UE (m:=0) uK lw rfl rfl rfl (Nat.zero_le _) wz (aa (.vs e 6 0 0) (af (ai (aa (.vs e 6 0 0) (aa (.vs e 6 0 0) (af ?_)))))))))
   obtain rfl:=ae a
   exact aC (finK (.inr rfl) 0 rfl rfl)
  ·refine ax rfl d (av (ai (aa .nil (aa .nil (af ?_)))))
   obtain rfl:=ae a
   exact aC (finK0 (.inr rfl) rfl)
end Go.Proofs.YtnfojnnfidnikaeGreatDoor.Law

