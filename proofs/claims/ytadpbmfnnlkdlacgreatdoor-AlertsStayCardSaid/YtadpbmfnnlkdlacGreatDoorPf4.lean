/-
 The machine computes these plain functions (written by a program of ours).
-/
import Derived.Test.YtadpbmfnnlkdlacGreatDoorFacts
import Derived.Test.YtadpbmfnnlkdlacGreatDoorDefs
import Derived.Test.YtadpbmfnnlkdlacGreatDoorPf3
import Derived.Test.YtadpbmfnnlkdlacGreatDoorShelf
open Go Go.Eng Go.Proofs
namespace Go.Proofs.YtadpbmfnnlkdlacGreatDoor.Law
set_option maxRecDepth 100000
set_option linter.unusedVariables false
set_option maxHeartbeats 1000000
theorem Gv {g:(List Receipt)} {i:Int} {r:(List (Pair×Int))} (t:uf g i=some r) :
  FnM Tryz.prog 48 [(vL Receipt.enc g),(vI i)] [] (.map (ax 0)) [some (bM (λx=>D.agg (Pair.enc x)) (D.int .i64) r)]:=by
 refine FnM.of_wH ⟨Tryz.prog,49,[],[]⟩ rfl Tryz.func48 rfl rfl (lb_ rfl) (by kernel_rfl) ?_
 unfold uf at t
 refine ai (aa .nilm (ah (ai (K4 0 (.inl rfl) wz (λf=>MH (b':=some (bM (λx=>D.agg (Pair.enc x)) (D.int .i64) ([]:List (Pair×Int)))) 0 rfl rfl (aa (.map f) (ah (ak (ai (aa (vL Receipt.enc g) (bK xY rfl wz (aa (vI 0) (ah ?_)))))))))))))
 obtain ⟨K,A,t⟩:=bind_some t
 obtain ⟨I,A⟩:=aS A
 refine bI (λ(e:(List (Pair×Int)))=>[(5,(.map f))]) (λ(e:(List (Pair×Int)))=>[(f,some (bM (λx=>D.agg (Pair.enc x)) (D.int .i64) e))]) (λ(j:Nat)=>(λ(e:(List (Pair×Int)))=>[(1,(vI i)),(5,(.map f)),(12,(vL Receipt.enc g)),(13,(vI (g.length:Int))),(14,(vI (j:Int)))])) (λk x s=>oL i k x s) K g ([]:List (Pair×Int)) A rfl (aG rfl) ?_ ?_
 ·rintro ⟨j,B,e⟩ ⟨n,l⟩
  dsimp only at n l
  cases B with
  | nil =>
   obtain rfl:=ae n
   refine ai (aa (vB (decide ((j:Int)<(g.length:Int)))) (ah ?_))
   refine ak (ay rfl (drop_nil l) (aX ?_))
   exact aU (e) rfl rfl (aG rfl)
  | cons c B =>
   obtain ⟨M,m,n⟩:=bind_some n
   refine ai (aa (vB (decide ((j:Int)<(g.length:Int)))) (ah ?_))
   refine ak (aA rfl (aZ l) (av ?_))
   unfold oL at m
   refine ak (aK (ai (dS Dx rfl rfl (bA l) rfl wz (bL rO Ba rfl (.d (.agg (Receipt.enc c))) rfl wz (cK 0 (.inl rfl) z48 rfl wz (λC=>gy 0 il ft 1 rO rfl rfl (Receipt.v c) rfl wz (ah (ai (aH Ed rfl 0 rfl wz (aC 0 1 il ft sz9 ag9 rfl rfl (vS c.Player) rfl wz (aH Es rfl 1 rfl wz (aC 0 1 il ft sz9 ag9 rfl rfl (vS c.Alert) rfl wz (aJ (.d (.agg (Pair.enc (⟨c.Player,c.Alert⟩:Pair)))) wz (by kernel_rfl) (cK 0 (.inl rfl) z100 rfl wz (λE=>gy 0 il ft 2 SE rfl rfl [(vS c.Player),(vS c.Alert)] rfl wz (ah (ai (aa (.map f) (aC 0 2 il ft SE ag100 rfl rfl (.d (.agg (Pair.enc (⟨c.Player,c.Alert⟩:Pair)))) rfl wz (CZ (eq:=(λ(a b:Pair)=>(eqS a.f_player b.f_player&&(eqS a.f_alert b.f_alert&&true)))) (kD:=(λx=>D.agg (Pair.enc x))) (vD:=(D.int .i64)) (es:=e) (k:=(⟨c.Player,c.Alert⟩:Pair)) (z:=0) 0 0 il ft (λ_ _=>rfl) mt94 (by kernel_rfl) (by kernel_rfl) rfl rfl rfl (.tup [(vI ((mGet (λ(a b:Pair)=>(eqS a.f_player b.f_player&&(eqS a.f_alert b.f_alert&&true))) e (⟨c.Player,c.Alert⟩:Pair)).getD 0)),(vB ((mGet (λ(a b:Pair)=>(eqS a.f_player b.f_player&&(eqS a.f_alert b.f_alert&&true))) e (⟨c.Player,c.Alert⟩:Pair)).isSome))]) rfl wz (aa (.tup [(vI ((mGet (λ(a b:Pair)=>(eqS a.f_player b.f_player&&(eqS a.f_alert b.f_alert&&true))) e (⟨c.Player,c.Alert⟩:Pair)).getD 0)),(vB ((mGet (λ(a b:Pair)=>(eqS a.f_player b.f_player&&(eqS a.f_alert b.f_alert&&true))) e (⟨c.Player,c.Alert⟩:Pair)).isSome))]) (aa (vI ((mGet (λ(a b:Pair)=>(eqS a.f_player b.f_player&&(eqS a.f_alert b.f_alert&&true))) e (⟨c.Player,c.Alert⟩:Pair)).getD 0)) (aa (vB ((mGet (λ(a b:Pair)=>(eqS a.f_player b.f_player&&(eqS a.f_alert b.f_alert&&true))) e (⟨c.Player,c.Alert⟩:Pair)).isSome)) ?_)))))))))))))))))))))))
   refine aa (vI ((mGet (λ(a b:Pair)=>(eqS a.f_player b.f_player&&(eqS a.f_alert b.f_alert&&true))) e (⟨c.Player,c.Alert⟩:Pair)).getD 0)) (aa (vB ((mGet (λ(a b:Pair)=>(eqS a.f_player b.f_player&&(eqS a.f_alert b.f_alert&&true))) e (⟨c.Player,c.Alert⟩:Pair)).isSome)) (ah (ak ?_)))
   obtain ⟨L,h,m⟩:=bind_some m
   refine aR [(1,(vI i)),(5,(.map f)),(7,(.ref C 0 0)),(8,(.ref E 0 0)),(12,(vL Receipt.enc g)),(13,(vI (g.length:Int))),(14,(vI (j:Int))),(42,(vB L))] [(f,some (bM (λx=>D.agg (Pair.enc x)) (D.int .i64) e)),(C,some (.cells 4 (Receipt.v c))),(E,some (.cells 2 [(vS c.Player),(vS c.Alert)]))] ?_ ?_
   ·refine au (aH BU rfl 2 rfl wz (aC 0 1 il ft sz3 ag3 rfl rfl (vI c.At) rfl wz (aa (vI i) (aa (vB (decide (c.At<=i))) ?_))))
    rcases aj h with⟨u,h⟩|⟨u,h⟩
    ·refine aF rfl u wz (aJ (vB ((mGet (λ(a b:Pair)=>(eqS a.f_player b.f_player&&(eqS a.f_alert b.f_alert&&true))) e (⟨c.Player,c.Alert⟩:Pair)).isSome)) wa rfl (aJ (vB (!((mGet (λ(a b:Pair)=>(eqS a.f_player b.f_player&&(eqS a.f_alert b.f_alert&&true))) e (⟨c.Player,c.Alert⟩:Pair)).isSome))) wa rfl ?_))
     rcases aj h with⟨w,h⟩|⟨w,h⟩
     ·refine aF rfl w wa (af (af (af (af (aJ (vB true) wa rfl (aa (vB true) (ah ?_)))))))
      obtain rfl:=ae h
      exact cu
     ·refine aF rfl w wa (aH BU rfl 2 rfl wa (aC 0 1 il ft sz3 ag3 rfl rfl (vI c.At) rfl wa (aJ (vI ((mGet (λ(a b:Pair)=>(eqS a.f_player b.f_player&&(eqS a.f_alert b.f_alert&&true))) e (⟨c.Player,c.Alert⟩:Pair)).getD 0)) wa rfl (aJ (vB (decide (c.At<((mGet (λ(a b:Pair)=>(eqS a.f_player b.f_player&&(eqS a.f_alert b.f_alert&&true))) e (⟨c.Player,c.Alert⟩:Pair)).getD 0)))) wa rfl (aJ (vB (decide (c.At<((mGet (λ(a b:Pair)=>(eqS a.f_player b.f_player&&(eqS a.f_alert b.f_alert&&true))) e (⟨c.Player,c.Alert⟩:Pair)).getD 0)))) wa rfl (aa (vB (decide (c.At<((mGet (λ(a b:Pair)=>(eqS a.f_player b.f_player&&(eqS a.f_alert b.f_alert&&true))) e (⟨c.Player,c.Alert⟩:Pair)).getD 0)))) (ah ?_)))))))
      obtain rfl:=ae h
      exact cu
    ·refine aF rfl u wz (af (af (af (dP (wn rfl rfl) (dP (wn rfl rfl) (dP (wn rfl rfl) (dP (wn rfl rfl) (af (aa (vB false) (ah ?_))))))))))
     obtain rfl:=ae h
     exact cu
   ·rintro ⟨⟩ _ G F p q
    refine aN _ p q ?_
    obtain ⟨H,o,m⟩:=bind_some m
    refine aR [(1,(vI i)),(5,(.map f)),(12,(vL Receipt.enc g)),(13,(vI (g.length:Int))),(14,(vI (j:Int)))] [(f,some (bM (λx=>D.agg (Pair.enc x)) (D.int .i64) H)),(C,some (.cells 4 (Receipt.v c))),(E,some (.cells 2 [(vS c.Player),(vS c.Alert)]))] ?_ ?_
    ·rcases aj o with⟨y,o⟩|⟨y,o⟩
     ·refine aA rfl y (au (aa (.map f) (aC 0 2 il ft SE ag100 rfl rfl (.d (.agg (Pair.enc (⟨c.Player,c.Alert⟩:Pair)))) rfl wz (aH BU rfl 2 rfl wz (aC 0 1 il ft sz3 ag3 rfl rfl (vI c.At) rfl wz (Hr (eq:=(λ(a b:Pair)=>(eqS a.f_player b.f_player&&(eqS a.f_alert b.f_alert&&true)))) (kD:=(λx=>D.agg (Pair.enc x))) (vD:=(D.int .i64)) (es:=e) (k:=(⟨c.Player,c.Alert⟩:Pair)) (v:=c.At) 0 0 il ft (λ_ _=>rfl) mt94 (by kernel_rfl) rfl rfl rfl rfl wz (ah ?_)))))))
      obtain rfl:=ae o
      exact cu
     ·refine ay rfl y (av ?_)
      obtain rfl:=ae o
      exact cu
    ·rintro ⟨⟩ _ G F p q
     refine aN _ p q (au (dE (bf l I) wz rfl (aa (vI ((j+1:Nat):Int)) (ah ?_))))
     obtain rfl:=ae m
     exact aV (j+1,B,H) ⟨n,aP l⟩ (ls_ _) rfl (aG rfl)
 ·rintro e J G F p q
  subst J
  refine aN _ p q (ai (aa (.map f) (aa (.map f) (ah ?_))))
  obtain rfl:=ae t
  exact aB (A7 (.inr rfl) [(.map f)] _ [0] [f] ⟨rfl,trivial⟩ (.cons (Ry _) .nil) (by kernel_rfl) ⟨(by kernel_rfl),trivial⟩ (by decide) (by kernel_rfl))
theorem Fy {b:Alert} {e:ByteArray} {c:Alert} {r:Bool} (f:mW b e c=some r) :
  FnM Tryz.prog 119 [(.d (.agg (Alert.enc b))),(.ref (ax 0) 0 0),(.ref (ax 1) 0 0)] [(.cells 1 [(vS e)]),(.cells 9 (Alert.v c))] (vB r) [some (.cells 1 [(vS e)]),some (.cells 9 (Alert.v c))]:=by
 refine FnM.of_wH ⟨Tryz.prog,22,[],[]⟩ rfl Tryz.func119 rfl rfl (lb_ rfl) (by kernel_rfl) ?_
 unfold mW at f
 refine ai (fe 0 (.inl rfl) (Alert.v b) rfl rfl wz (λn=>aa (vB false) (ah (ak ?_))))
 obtain ⟨j,a,f⟩:=bind_some f
 refine aR [(4,(vB j))] [((ax 0),some (.cells 1 [(vS e)])),((ax 1),some (.cells 9 (Alert.v c))),(n,some (.cells 9 (Alert.v b)))] ?_ ?_
 ·refine au (aH lq rfl 0 rfl wz (aC 0 2 il ft sz9 ag9 rfl rfl (vS b.Id) rfl wz (aC 0 0 il ft sz9 ag9 rfl rfl (vS e) rfl wz (aa (vB (sEq b.Id e)) ?_))))
  rcases aj a with⟨g,a⟩|⟨g,a⟩
  ·refine aF rfl g wz (aH Dz rfl 1 rfl wa (aC 0 2 il ft sz9 ag9 rfl rfl (vS b.Sender) rfl wa (aH Dz rfl 1 rfl wa (aC 0 1 il ft sz9 ag9 rfl rfl (vS c.Sender) rfl wa (aJ (vB (sEq b.Sender c.Sender)) wa rfl (aa (vB (sEq b.Sender c.Sender)) ?_))))))
   rcases aj a with⟨h,a⟩|⟨h,a⟩
   ·refine aF rfl h wz (aC 0 2 il ft fO kv rfl rfl (.d (.agg (Alert.enc b))) rfl wa (aC 0 1 il ft fO kv rfl rfl (.d (.agg (Alert.enc c))) rfl wa ?_))
    obtain ⟨i,m,a⟩:=bind_some a
    refine aD (xS m) rfl hb35 rfl rfl rfl rfl wa (aJ (vB (decide (i<0))) wa rfl (aa (vB (decide (i<0))) (aa (vB (decide (i<0))) (ah ?_))))
    obtain rfl:=ae a
    exact cu
   ·refine aF rfl h wz (af (af (af (af (aa (vB false) (aa (vB false) (ah ?_)))))))
    obtain rfl:=ae a
    exact cu
  ·refine aF rfl g wz (af (af (af (af (af (aa (vB false) (aa (vB false) (af (af (af (af (aa (vB false) (aa (vB false) (ah ?_))))))))))))))
   obtain rfl:=ae a
   exact cu
 ·rintro ⟨⟩ _ p o k l
  refine aN _ k l ?_
  obtain rfl:=ae f
  exact aB (A7 (.inr rfl) [(vB j)] _ [0,1] [ax 0,ax 1] ⟨rfl,trivial⟩ (.cons (kZ rfl rfl) (.nil)) (by kernel_rfl) ⟨(by kernel_rfl),⟨(by kernel_rfl),trivial⟩⟩ (by decide) (by kernel_rfl))
theorem nW {c:(List Alert)} {j:Alert->Option Bool} {r:Int} {gid:FuncId} {caps:List V} {Sin:List Box} (hfn:∀x0 r,j x0=some r->FnM Tryz.prog gid ([(.d (.agg (Alert.enc x0)))]++caps) Sin (vB r) (Sin.map some)) (hbF:aI Tryz.prog gid=true) (hcapF:caps.flatMap frz=[]/\caps.map co0=caps) (hokF:okL Sin.length caps=true) (hsF:∀b∈Sin,b.ok Sin.length=true) (hmF:∀b∈Sin,b.mut=true) (h:eY c j=some r) :
  FnM Tryz.prog 118 [(vL Alert.enc c),(.fn gid caps)] Sin (vI r) (Sin.map some):=by
 refine FnM.of_wH ⟨Tryz.prog,19,[],[]⟩ rfl Tryz.func118 rfl rfl (lb_ rfl) (by kernel_rfl) ?_
 unfold eY at h
 refine ai (aa (vI 0) (ah (ak (ai (aa (vL Alert.enc c) (bK uR rfl wz (aa (vI 0) (ah ?_))))))))
 obtain ⟨v,m,h⟩:=bind_some h
 obtain ⟨o,m⟩:=aS m
 refine bI (λ(i:Unit)=>[]) (λ(i:Unit)=>(qW 0 Sin)) (λ(a:Nat)=>(λ(i:Unit)=>[(0,(vL Alert.enc c)),(1,(.fn gid caps)),(7,(vI (c.length:Int))),(8,(vI (a:Int)))])) (λk x s=>dZ j k x s) v c () m rfl (xK _) ?_ ?_
 ·rintro ⟨a,n,i⟩ ⟨g,f⟩
  dsimp only at g f
  cases n with
  | nil =>
   obtain rfl:=ae g
   refine ai (aa (vB (decide ((a:Int)<(c.length:Int)))) (ah ?_))
   refine ak (ay rfl (drop_nil f) (aX ?_))
   exact aU (i) rfl rfl (xK _)
  | cons w n =>
   obtain ⟨z,e,g⟩:=bind_some g
   refine ai (aa (vB (decide ((a:Int)<(c.length:Int)))) (ah ?_))
   refine ak (aA rfl (aZ f) (av ?_))
   unfold dZ at e
   refine ak (aK (ai (aa (vI (a:Int)) (aa (vI (a:Int)) (ah (ai (aa (.fn gid caps) (aa (vL Alert.enc c) (aa (vI (a:Int)) (dS mP rfl rfl (bA f) rfl wz (bL fO kv rfl (.d (.agg (Alert.enc w))) rfl wz ?_)))))))))))
   obtain ⟨A,u,e⟩:=bind_some e
   refine Ld (hfn _ _ u) rfl hbF rfl rfl hcapF hokF hsF hmF rfl wz rfl (ah ?_)
   rcases aj e with⟨l,e⟩|⟨l,e⟩
   ·refine aA rfl l (ai (aa (vI (a:Int)) (aa (vI (a:Int)) (ah ?_))))
    obtain rfl:=ae e
    obtain rfl:=ae g
    obtain rfl:=ae h
    exact aB (Q0 hsF (.inr rfl) [(vI (a:Int))] ⟨rfl,trivial⟩ rfl rfl rfl)
   ·refine ay rfl l (av (au (dE (bf f o) wz rfl (aa (vI ((a+1:Nat):Int)) (ah ?_)))))
    obtain rfl:=ae e
    exact aV (a+1,n,()) ⟨g,aP f⟩ (ls_ _) rfl (xK _)
 ·rintro i p B y q t
  subst p
  refine aN _ q t (ai (aa (vI (-1)) (ah ?_)))
  obtain rfl:=ae h
  exact aB (Q0 hsF (.inr rfl) [(vI (-1))] ⟨rfl,trivial⟩ rfl rfl rfl)
theorem Ja {e:(List Alert)} {a:Alert} {b:ByteArray} {r:Int} (c:r9 e a b=some r) :
  FnM Tryz.prog 78 [(vL Alert.enc e),(.d (.agg (Alert.enc a))),(vS b)] [] (vI r) []:=by
 refine FnM.of_wH ⟨Tryz.prog,10,[],[]⟩ rfl Tryz.func78 rfl rfl (lb_ rfl) (by kernel_rfl) ?_
 unfold r9 at c
 refine ai (fe 0 (.inl rfl) (Alert.v a) rfl rfl wz (λg=>fe 0 (.inl rfl) [(vS b)] rfl rfl wz (λh=>aa (vI 0) (ah (ai (aa (vL Alert.enc e) (aa (.fn 119 [(.ref h 0 0),(.ref g 0 0)]) ?_)))))))
 obtain ⟨f,i,c⟩:=bind_some c
 refine dK 0 [1,0] il ft (nW (gid:=119) (caps:=[.ref (ax 0) 0 0,.ref (ax 1) 0 0]) (Sin:=[(.cells 1 [(vS b)]),(.cells 9 (Alert.v a))]) (λ_ _ h_=>Fy h_) hb119 ⟨rfl,rfl⟩ (by kernel_rfl) (R6 (by kernel_rfl)) (OG (by kernel_rfl)) i) rfl hb118 rfl (by kernel_rfl) (by kernel_rfl) (by kernel_rfl) (by kernel_rfl) (by kernel_rfl) (by kernel_rfl) (by kernel_rfl) (by decide) (by kernel_rfl) wz (vI f) (by kernel_rfl) ([(g,some (.cells 9 (Alert.v a))),(h,some (.cells 1 [(vS b)]))]:Hp) (by kernel_rfl) (aa (vI f) (ah ?_))
 obtain rfl:=ae c
 exact aB (aM [(vI f)] ⟨rfl,trivial⟩)
theorem Bu {a:(List Alert)} {r:(List Int)} (y:sG a=some r) :
  FnM Tryz.prog 49 [(vL Alert.enc a)] [] (vL eI r) []:=by
 refine FnM.of_wH ⟨Tryz.prog,55,[],[]⟩ rfl Tryz.func49 rfl rfl (lb_ rfl) (by kernel_rfl) ?_
 unfold sG at y
 refine ai (aa .nil (ah (ai (aa .nil (ah (ak (ai (aa (vL Alert.enc a) (bK uR rfl wz (aa (vI 0) (ah (jm (λÊ => ?_)))))))))))))
 obtain ⟨Ë,M,y⟩:=bind_some y
 obtain ⟨Å,M⟩:=aS M
 refine gD (σ:=(List Int)) (N:=Nm) (λp=>(λ(h:List Int) (b:Nm)=>([(0,(vL Alert.enc a)),(3,(gV b 1 h))]:SL_)) p.1 p.2) (λp=>(λ(h:List Int) (b:Nm)=>([(b,gB 1 eI h)]:Hp)) p.1 p.2) (λ(A:Nat)=>(λp=>(λ(h:List Int) (b:Nm)=>([(0,(vL Alert.enc a)),(3,(gV b 1 h)),(11,(vL Alert.enc a)),(12,(vI (a.length:Int))),(13,(vI (A:Int)))]:SL_)) p.1 p.2)) (λk x s=>qh k x s) Ë a (([]:List Int),Ê) M rfl (aG rfl) ?_ ?_
 ·rintro ⟨A,R,h,b⟩ ⟨B,w⟩
  dsimp only at B w
  cases R with
  | nil =>
   obtain rfl:=ae B
   refine ai (aa (vB (decide ((A:Int)<(a.length:Int)))) (ah ?_))
   refine ak (ay rfl (drop_nil w) (aX ?_))
   exact aU (h,b) rfl rfl (aG rfl)
  | cons J R =>
   obtain ⟨Z,G,B⟩:=bind_some B
   refine ai (aa (vB (decide ((A:Int)<(a.length:Int)))) (ah ?_))
   refine ak (aA rfl (aZ w) (av ?_))
   unfold qh at G
   refine ak (aK (ai (dS mP rfl rfl (bA w) rfl wz (bL fO kv rfl (.d (.agg (Alert.enc J))) rfl wz (cK 0 (.inl rfl) z39 rfl wz (λÏ=>gy 0 il ft 1 fO rfl rfl (Alert.v J) rfl wz (ah (au (aa (gV b 1 h) (aH Ez rfl 5 rfl wz (aC 0 1 il ft sz3 ag3 rfl rfl (vI J.Until) rfl wz (d9 (([J.Until]:List Int).map eI) nX Ce rfl rfl rfl rfl rfl wz ?_))))))))))))
   obtain ⟨Y,É,G⟩:=bind_some G
   refine lh 0 il ft (i:=0) R9 R9 sz3 z3 rfl (by decide) by3 (by decide) (λ_=>rfl) rfl rfl rfl É wz (λÂ=>aa (gV Â 1 Y) (ah (au (dE (bf w Å) wz rfl (aa (vI ((A+1:Nat):Int)) (ah ?_))))))
   obtain rfl:=ae G
   exact aV (A+1,R,Y,Â) ⟨B,aP w⟩ (ls_ _) rfl (aG rfl)
 ·rintro ⟨h,b⟩ F U K m n
  subst F
  refine aN _ m n (ak (ai (aa (vL Alert.enc a) (bK uR rfl wz (aa (vI 0) (ah ?_))))))
  obtain ⟨Ì,O,y⟩:=bind_some y
  obtain ⟨Ã,O⟩:=aS O
  refine bI (λ(g:List Int)=>[(3,(gV b 1 g))]) (λ(g:List Int)=>[(b,gB 1 eI g)]) (λ(j:Nat)=>(λ(g:List Int)=>[(0,(vL Alert.enc a)),(3,(gV b 1 g)),(23,(vL Alert.enc a)),(24,(vI (a.length:Int))),(25,(vI (j:Int)))])) (λk x s=>pY a k x s) Ì a h O rfl (aG rfl) ?_ ?_
  ·rintro ⟨j,Q,g⟩ ⟨C,t⟩
   dsimp only at C t
   cases Q with
   | nil =>
    obtain rfl:=ae C
    refine ai (aa (vB (decide ((j:Int)<(a.length:Int)))) (ah ?_))
    refine ak (ay rfl (drop_nil t) (aX ?_))
    exact aU (g) rfl rfl (aG rfl)
   | cons c Q =>
    obtain ⟨Z,H,C⟩:=bind_some C
    refine ai (aa (vB (decide ((j:Int)<(a.length:Int)))) (ah ?_))
    refine ak (aA rfl (aZ t) (av ?_))
    unfold pY at H
    refine ak (aK (ai (dS mP rfl rfl (bA t) rfl wz (bL fO kv rfl (.d (.agg (Alert.enc c))) rfl wz (cK 0 (.inl rfl) z39 rfl wz (λI=>gy 0 il ft 1 fO rfl rfl (Alert.v c) rfl wz (ah (ai (aH qC rfl 3 rfl wz (aC 0 1 il ft zJ Dh rfl rfl (vL eS c.Refs) rfl wz (bK xx rfl wz (aa (vI 0) (ah ?_)))))))))))))
    obtain ⟨Í,P,H⟩:=bind_some H
    obtain ⟨Ä,P⟩:=aS P
    refine bI (λ(e:List Int)=>[(0,(vL Alert.enc a)),(3,(gV b 1 e)),(23,(vL Alert.enc a)),(24,(vI (a.length:Int))),(25,(vI (j:Int)))]) (λ(e:List Int)=>[(b,gB 1 eI e),(I,some (.cells 9 (Alert.v c)))]) (λ(o:Nat)=>(λ(e:List Int)=>[(0,(vL Alert.enc a)),(3,(gV b 1 e)),(7,(.ref I 0 0)),(23,(vL Alert.enc a)),(24,(vI (a.length:Int))),(25,(vI (j:Int))),(30,(vL eS c.Refs)),(31,(vI (c.Refs.length:Int))),(32,(vI (o:Int)))])) (λk x s=>nK a c k x s) Í c.Refs g P rfl (aG rfl) ?_ ?_
    ·rintro ⟨o,T,e⟩ ⟨E,u⟩
     dsimp only at E u
     cases T with
     | nil =>
      obtain rfl:=ae E
      refine ai (aa (vB (decide ((o:Int)<(c.Refs.length:Int)))) (ah ?_))
      refine ak (ay rfl (drop_nil u) (aX ?_))
      exact aU (e) rfl rfl (aG rfl)
     | cons X T =>
      obtain ⟨Z,z,E⟩:=bind_some E
      refine ai (aa (vB (decide ((o:Int)<(c.Refs.length:Int)))) (ah ?_))
      refine ak (aA rfl (aZ u) (av ?_))
      unfold nK at z
      refine ak (aK (ai (dS qp rfl rfl (bA u) rfl wz (bL sz9 ag9 rfl (vS X) rfl wz (aa (vS X) (ah (ai (aa (vL Alert.enc a) (aC 0 1 il ft fO kv rfl rfl (.d (.agg (Alert.enc c))) rfl wz (aa (vS X) ?_))))))))))
      obtain ⟨l,Æ,z⟩:=bind_some z
      refine aD (Ja Æ) rfl hb78 rfl rfl rfl rfl wz (aa (vI l) (ah (ai (aa (vI l) (aa (vB (decide (l>=0))) (ah ?_))))))
      obtain ⟨W,f,z⟩:=bind_some z
      refine aR [(0,(vL Alert.enc a)),(3,(gV b 1 W)),(7,(.ref I 0 0)),(23,(vL Alert.enc a)),(24,(vI (a.length:Int))),(25,(vI (j:Int))),(30,(vL eS c.Refs)),(31,(vI (c.Refs.length:Int))),(32,(vI (o:Int)))] [(b,gB 1 eI W),(I,some (.cells 9 (Alert.v c)))] ?_ ?_
      ·rcases aj f with⟨L,f⟩|⟨L,f⟩
       ·refine aA rfl L (bu (aa (gV b 1 e) (aa (vI l) (aa (gV b 1 e) (aa (vI l) ?_)))))
        obtain ⟨_,À,f⟩:=bind_some f
        refine xc nX rfl rfl (gU À) (dU À) wz ?_
        obtain ⟨q,Ç,f⟩:=bind_some f
        refine jq 5 0 (.inr (by kernel_rfl)) (λ_ _ ag=>trivial) sz3 ag3 rfl rfl Ç (vI q) rfl wz (aH ll rfl 4 rfl wz (aC 7 1 (.inr (by kernel_rfl)) (λ_ _ ag=>⟨.inl ⟨rfl,rfl⟩,trivial⟩) sz3 ag3 rfl rfl (vI c.At) rfl wz (wu (vI (Aa q c.At)) rfl (.inl rfl) wz ?_)))
        obtain ⟨_,Á,f⟩:=bind_some f
        refine xc nX rfl rfl (gU Á) (dU Á) wz ?_
        obtain ⟨Î,È,f⟩:=bind_some f
        refine pM 10 (.inr (by kernel_rfl)) (λ_ _ ag=>⟨.inr (.inr (by kernel_rfl)),⟨.inr (.inr (by kernel_rfl)),trivial⟩⟩) 0 sz3 rfl rfl È (Aa q c.At) rfl wz (bU (v':=(gV b 1 (e.set (0+(l).toNat) (Aa q c.At)))) 3 rfl (fM (by simp)) (bU (v':=(gV b 1 (e.set (0+(l).toNat) (Aa q c.At)))) 42 rfl (fM (by simp)) (bU (v':=(gV b 1 (e.set (0+(l).toNat) (Aa q c.At)))) 44 rfl (fM (by simp)) (ah ?_))))
        obtain rfl:=ae f
        exact cu
       ·refine ay rfl L (av ?_)
        obtain rfl:=ae f
        exact cu
      ·rintro ⟨⟩ _ U K m n
       refine aN _ m n (au (dE (bf u Ä) wz rfl (aa (vI ((o+1:Nat):Int)) (ah ?_))))
       obtain rfl:=ae z
       exact aV (o+1,T,W) ⟨E,aP u⟩ (ls_ _) rfl (aG rfl)
    ·rintro e F U K m n
     subst F
     refine aN _ m n (au (dE (bf t Ã) wz rfl (aa (vI ((j+1:Nat):Int)) (ah ?_))))
     obtain rfl:=ae H
     exact aV (j+1,Q,e) ⟨C,aP t⟩ (ls_ _) rfl (aG rfl)
  ·rintro g F U K m n
   subst F
   refine aN _ m n (ai (aa (gV b 1 g) (aa (gV b 1 g) (ah (jN 0 rfl (fQ 2 0 rfl rfl (fQ 3 0 rfl rfl (fQ 54 0 rfl rfl ?_))))))))
   obtain rfl:=ae y
   exact aB (aM [(vL eI g)] ⟨rfl,trivial⟩)
theorem Cg {a:Rect} {b:Post} {r:Bool} (e:nz a b=some r) :
  FnM Tryz.prog 121 [(.d (.agg (Rect.enc a))),(.ref (ax 0) 0 0)] [(.cells 3 (Post.v b))] (vB r) [some (.cells 3 (Post.v b))]:=by
 refine FnM.of_wH ⟨Tryz.prog,36,[],[]⟩ rfl Tryz.func121 rfl rfl (lb_ rfl) (by kernel_rfl) ?_
 unfold nz at e
 refine ai (fe 0 (.inl rfl) (Rect.v a) rfl rfl wz (λl=>aa (vB false) (ah (ak ?_))))
 obtain ⟨i,c,e⟩:=bind_some e
 refine aR [(3,(vB i))] [((ax 0),some (.cells 3 (Post.v b))),(l,some (.cells 4 (Rect.v a)))] ?_ ?_
 ·refine au (aH BM rfl 0 rfl wz (aC 0 1 il ft sz3 ag3 rfl rfl (vI a.X) rfl wz (aH Ox rfl 1 rfl wz (aC 0 0 il ft sz3 ag3 rfl rfl (vI b.X) rfl wz (aa (vB (decide (a.X<=b.X))) ?_)))))
  rcases aj c with⟨f,c⟩|⟨f,c⟩
  ·refine aF rfl f wz (aH Ox rfl 1 rfl wa (aC 0 0 il ft sz3 ag3 rfl rfl (vI b.X) rfl wa (aH BM rfl 0 rfl wa (aC 0 1 il ft sz3 ag3 rfl rfl (vI a.X) rfl wa (aH GQ rfl 2 rfl wa (aC 0 1 il ft sz3 ag3 rfl rfl (vI a.W) rfl wa (aJ (vI (w64 (a.X+a.W))) wa rfl (aJ (vB (decide (b.X<(w64 (a.X+a.W))))) wa rfl (aa (vB (decide (b.X<(w64 (a.X+a.W))))) ?_)))))))))
   rcases aj c with⟨g,c⟩|⟨g,c⟩
   ·refine aF rfl g wz (aH zh rfl 1 rfl wa (aC 0 1 il ft sz3 ag3 rfl rfl (vI a.Y) rfl wa (aH Oe rfl 2 rfl wa (aC 0 0 il ft sz3 ag3 rfl rfl (vI b.Y) rfl wa (aJ (vB (decide (a.Y<=b.Y))) wa rfl (aa (vB (decide (a.Y<=b.Y))) ?_))))))
    rcases aj c with⟨h,c⟩|⟨h,c⟩
    ·refine aF rfl h wz (aH Oe rfl 2 rfl wa (aC 0 0 il ft sz3 ag3 rfl rfl (vI b.Y) rfl wa (aH zh rfl 1 rfl wa (aC 0 1 il ft sz3 ag3 rfl rfl (vI a.Y) rfl wa (aH DW rfl 3 rfl wa (aC 0 1 il ft sz3 ag3 rfl rfl (vI a.H) rfl wa (aJ (vI (w64 (a.Y+a.H))) wa rfl (aJ (vB (decide (b.Y<(w64 (a.Y+a.H))))) wa rfl (aa (vB (decide (b.Y<(w64 (a.Y+a.H))))) (aa (vB (decide (b.Y<(w64 (a.Y+a.H))))) (ah ?_)))))))))))
     obtain rfl:=ae c
     exact cu
    ·refine aF rfl h wz (af (af (af (af (af (af (af (af (aa (vB false) (aa (vB false) (ah ?_)))))))))))
     obtain rfl:=ae c
     exact cu
   ·refine aF rfl g wz (af (af (af (af (af (aa (vB false) (aa (vB false) (af (af (af (af (af (af (af (af (aa (vB false) (aa (vB false) (ah ?_))))))))))))))))))
    obtain rfl:=ae c
    exact cu
  ·refine aF rfl f wz (af (af (af (af (af (af (af (af (aa (vB false) (aa (vB false) (af (af (af (af (af (aa (vB false) (aa (vB false) (af (af (af (af (af (af ?_)))))))))))))))))))))))
   refine af (af (aa (vB false) (aa (vB false) (ah ?_))))
   obtain rfl:=ae c
   exact cu
 ·rintro ⟨⟩ _ n m j k
  refine aN _ j k ?_
  obtain rfl:=ae e
  exact aB (A7 (.inr rfl) [(vB i)] _ [0] [ax 0] ⟨rfl,trivial⟩ (.cons (kZ rfl rfl) (.nil)) (by kernel_rfl) ⟨(by kernel_rfl),trivial⟩ (by decide) (by kernel_rfl))
theorem o9 {c:(List Rect)} {j:Rect->Option Bool} {r:Int} {gid:FuncId} {caps:List V} {Sin:List Box} (hfn:∀x0 r,j x0=some r->FnM Tryz.prog gid ([(.d (.agg (Rect.enc x0)))]++caps) Sin (vB r) (Sin.map some)) (hbF:aI Tryz.prog gid=true) (hcapF:caps.flatMap frz=[]/\caps.map co0=caps) (hokF:okL Sin.length caps=true) (hsF:∀b∈Sin,b.ok Sin.length=true) (hmF:∀b∈Sin,b.mut=true) (h:fI c j=some r) :
  FnM Tryz.prog 158 [(vL Rect.enc c),(.fn gid caps)] Sin (vI r) (Sin.map some):=by
 refine FnM.of_wH ⟨Tryz.prog,19,[],[]⟩ rfl Tryz.func158 rfl rfl (lb_ rfl) (by kernel_rfl) ?_
 unfold fI at h
 refine ai (aa (vI 0) (ah (ak (ai (aa (vL Rect.enc c) (bK yF rfl wz (aa (vI 0) (ah ?_))))))))
 obtain ⟨v,m,h⟩:=bind_some h
 obtain ⟨o,m⟩:=aS m
 refine bI (λ(i:Unit)=>[]) (λ(i:Unit)=>(qW 0 Sin)) (λ(a:Nat)=>(λ(i:Unit)=>[(0,(vL Rect.enc c)),(1,(.fn gid caps)),(7,(vI (c.length:Int))),(8,(vI (a:Int)))])) (λk x s=>bO j k x s) v c () m rfl (xK _) ?_ ?_
 ·rintro ⟨a,n,i⟩ ⟨g,f⟩
  dsimp only at g f
  cases n with
  | nil =>
   obtain rfl:=ae g
   refine ai (aa (vB (decide ((a:Int)<(c.length:Int)))) (ah ?_))
   refine ak (ay rfl (drop_nil f) (aX ?_))
   exact aU (i) rfl rfl (xK _)
  | cons w n =>
   obtain ⟨z,e,g⟩:=bind_some g
   refine ai (aa (vB (decide ((a:Int)<(c.length:Int)))) (ah ?_))
   refine ak (aA rfl (aZ f) (av ?_))
   unfold bO at e
   refine ak (aK (ai (aa (vI (a:Int)) (aa (vI (a:Int)) (ah (ai (aa (.fn gid caps) (aa (vL Rect.enc c) (aa (vI (a:Int)) (dS BL rfl rfl (bA f) rfl wz (bL sU DU rfl (.d (.agg (Rect.enc w))) rfl wz ?_)))))))))))
   obtain ⟨A,u,e⟩:=bind_some e
   refine Ld (hfn _ _ u) rfl hbF rfl rfl hcapF hokF hsF hmF rfl wz rfl (ah ?_)
   rcases aj e with⟨l,e⟩|⟨l,e⟩
   ·refine aA rfl l (ai (aa (vI (a:Int)) (aa (vI (a:Int)) (ah ?_))))
    obtain rfl:=ae e
    obtain rfl:=ae g
    obtain rfl:=ae h
    exact aB (Q0 hsF (.inr rfl) [(vI (a:Int))] ⟨rfl,trivial⟩ rfl rfl rfl)
   ·refine ay rfl l (av (au (dE (bf f o) wz rfl (aa (vI ((a+1:Nat):Int)) (ah ?_)))))
    obtain rfl:=ae e
    exact aV (a+1,n,()) ⟨g,aP f⟩ (ls_ _) rfl (xK _)
 ·rintro i p B y q t
  subst p
  refine aN _ q t (ai (aa (vI (-1)) (ah ?_)))
  obtain rfl:=ae h
  exact aB (Q0 hsF (.inr rfl) [(vI (-1))] ⟨rfl,trivial⟩ rfl rfl rfl)
theorem nM {e:(List Rect)} {f:Rect->Option Bool} {r:Bool} {gid:FuncId} {caps:List V} {Sin:List Box} (hfn:∀x0 r,f x0=some r->FnM Tryz.prog gid ([(.d (.agg (Rect.enc x0)))]++caps) Sin (vB r) (Sin.map some)) (hbF:aI Tryz.prog gid=true) (hcapF:caps.flatMap frz=[]/\caps.map co0=caps) (hokF:okL Sin.length caps=true) (hsF:∀b∈Sin,b.ok Sin.length=true) (hmF:∀b∈Sin,b.mut=true) (a:dF e f=some r) :
  FnM Tryz.prog 120 [(vL Rect.enc e),(.fn gid caps)] Sin (vB r) (Sin.map some):=by
 refine FnM.of_wH ⟨Tryz.prog,9,[],[]⟩ rfl Tryz.func120 rfl rfl (lb_ rfl) (by kernel_rfl) ?_
 unfold dF at a
 refine ai (aa (vB false) (ah (ai (aa (vL Rect.enc e) (aa (.fn gid caps) ?_)))))
 obtain ⟨c,g,a⟩:=bind_some a
 refine Ld (o9 (gid:=gid) (caps:=caps) (Sin:=Sin) hfn hbF hcapF hokF hsF hmF g) rfl hb158 rfl rfl ⟨rfl,rfl⟩ (by simp [okL,okV,hokF]) hsF hmF rfl wz rfl (aa (vB (decide (c>=0))) (aa (vB (decide (c>=0))) (ah ?_)))
 obtain rfl:=ae a
 exact aB (Q0 hsF (.inr rfl) [(vB (decide (c>=0)))] ⟨rfl,trivial⟩ rfl rfl rfl)
theorem sS {a:Alert} {b:Post} {r:Bool} (c:kJ a b=some r) :
  FnM Tryz.prog 79 [(.d (.agg (Alert.enc a))),(.d (.agg (Post.enc b)))] [] (vB r) []:=by
 refine FnM.of_wH ⟨Tryz.prog,9,[],[]⟩ rfl Tryz.func79 rfl rfl (lb_ rfl) (by kernel_rfl) ?_
 unfold kJ at c
 refine ai (fe 0 (.inl rfl) (Alert.v a) rfl rfl wz (λh=>fe 0 (.inl rfl) (Post.v b) rfl rfl wz (λf=>aa (vB false) (ah (ai (aH uw rfl 7 rfl wz (aC 0 0 il ft CY Fj rfl rfl (vL Rect.enc a.Areas) rfl wz (aa (.fn 121 [(.ref f 0 0)]) ?_))))))))
 obtain ⟨e,g,c⟩:=bind_some c
 refine dK 0 [1] il ft (nM (gid:=121) (caps:=[.ref (ax 0) 0 0]) (Sin:=[(.cells 3 (Post.v b))]) (λ_ _ h_=>Cg h_) hb121 ⟨rfl,rfl⟩ (by kernel_rfl) (R6 (by kernel_rfl)) (OG (by kernel_rfl)) g) rfl hb120 rfl (by kernel_rfl) (by kernel_rfl) (by kernel_rfl) (by kernel_rfl) (by kernel_rfl) (by kernel_rfl) (by kernel_rfl) (by decide) (by kernel_rfl) wz (vB e) (by kernel_rfl) ([(h,some (.cells 9 (Alert.v a))),(f,some (.cells 3 (Post.v b)))]:Hp) (by kernel_rfl) (aa (vB e) (ah ?_))
 obtain rfl:=ae c
 exact aB (aM [(vB e)] ⟨rfl,trivial⟩)
theorem Fw {b:Alert} {e:Int} {f:Post} {c:Int} {r:Bool} (g:ru b e f c=some r) :
  FnM Tryz.prog 50 [(.d (.agg (Alert.enc b))),(vI e),(.d (.agg (Post.enc f))),(vI c)] [] (vB r) []:=by
 refine FnM.of_wH ⟨Tryz.prog,29,[],[]⟩ rfl Tryz.func50 rfl rfl (lb_ rfl) (by kernel_rfl) ?_
 unfold ru at g
 refine ai (fe 0 (.inl rfl) (Alert.v b) rfl rfl wz (λp=>fe 0 (.inl rfl) (Post.v f) rfl rfl wz (λq=>aa (vB false) (ah (ak ?_)))))
 obtain ⟨l,a,g⟩:=bind_some g
 refine aR [(8,(vB l))] [(p,some (.cells 9 (Alert.v b))),(q,some (.cells 3 (Post.v f)))] ?_ ?_
 ·refine au (aH xk rfl 2 rfl wz (aC 0 0 il ft sz3 ag3 rfl rfl (vI b.Kind) rfl wz (aa (vB (b.Kind != 3)) ?_)))
  rcases aj a with⟨j,a⟩|⟨j,a⟩
  ·refine aF rfl j wz (aH ll rfl 4 rfl wa (aC 0 0 il ft sz3 ag3 rfl rfl (vI b.At) rfl wa (aJ (vI c) wa rfl (aJ (vB (decide (b.At<=c))) wa rfl (aa (vB (decide (b.At<=c))) ?_)))))
   rcases aj a with⟨h,a⟩|⟨h,a⟩
   ·refine aF rfl h wz (aH ll rfl 4 rfl wa (aC 0 0 il ft sz3 ag3 rfl rfl (vI b.At) rfl wa (aJ (vI e) wa rfl (aJ (vB (decide (b.At<e))) wa rfl (aa (vB (decide (b.At<e))) ?_)))))
    rcases aj a with⟨i,a⟩|⟨i,a⟩
    ·refine aF rfl i wz (aC 0 0 il ft fO kv rfl rfl (.d (.agg (Alert.enc b))) rfl wa (aC 0 1 il ft BS Hm rfl rfl (.d (.agg (Post.enc f))) rfl wa ?_))
     obtain ⟨k,o,a⟩:=bind_some a
     refine aD (sS o) rfl hb79 rfl rfl rfl rfl wa (aa (vB k) (aa (vB k) (ah ?_)))
     obtain rfl:=ae a
     exact cu
    ·refine aF rfl i wz (af (af (af (aa (vB false) (aa (vB false) (ah ?_))))))
     obtain rfl:=ae a
     exact cu
   ·refine aF rfl h wz (af (af (af (af (aa (vB false) (aa (vB false) (af (af (af (aa (vB false) (aa (vB false) (ah ?_))))))))))))
    obtain rfl:=ae a
    exact cu
  ·refine aF rfl j wz (af (af (af (af (aa (vB false) (aa (vB false) (af (af (af (af (aa (vB false) (aa (vB false) (af (af (af (aa (vB false) (aa (vB false) (ah ?_))))))))))))))))))
   obtain rfl:=ae a
   exact cu
 ·rintro ⟨⟩ _ t s m n
  refine aN _ m n ?_
  obtain rfl:=ae g
  exact aB (aM [(vB l)] ⟨rfl,trivial⟩)
section
variable [dM:DM]
theorem DI {b:Debt} {c:Debt} {r:Int} (a:nI b c=some r) :
  FnM Tryz.prog 52 [(.d (.agg (Debt.enc b))),(.d (.agg (Debt.enc c)))] [] (vI r) []:=by
 refine FnM.of_wH ⟨Tryz.prog,17,[],[]⟩ rfl Tryz.func52 rfl rfl (lb_ rfl) (by kernel_rfl) ?_
 unfold nI at a
 refine ai (fe 0 (.inl rfl) (Debt.v b) rfl rfl wz (λk=>fe 0 (.inl rfl) (Debt.v c) rfl rfl wz (λl=>aa (vI 0) (ah (ak (bu (aH Tw rfl 0 rfl wz (aC 1 0 (.inr (by kernel_rfl)) (λ_ _ ag=>trivial) sz9 ag9 rfl rfl (vS b.Player) rfl wz (aH Tw rfl 0 rfl wz (aC 3 1 (.inr (by kernel_rfl)) (λ_ _ ag=>⟨.inl ⟨rfl,rfl⟩,trivial⟩) sz9 ag9 rfl rfl (vS c.Player) rfl wz ?_))))))))))
 obtain ⟨i,g,a⟩:=bind_some a
 refine aD (gP g) rfl Ng rfl rfl rfl rfl wz (aH Sz rfl 1 rfl wz (aC 6 0 (.inr (by kernel_rfl)) (λ_ _ ag=>⟨.inl ⟨rfl,rfl⟩,⟨.inl ⟨rfl,rfl⟩,trivial⟩⟩) sz9 ag9 rfl rfl (vS b.Alert) rfl wz (aH Sz rfl 1 rfl wz (aC 8 1 (.inr (by kernel_rfl)) (λ_ _ ag=>⟨.inl ⟨rfl,rfl⟩,⟨.inl ⟨rfl,rfl⟩,⟨.inl ⟨rfl,rfl⟩,trivial⟩⟩⟩) sz9 ag9 rfl rfl (vS c.Alert) rfl wz ?_))))
 obtain ⟨j,h,a⟩:=bind_some a
 refine aD (gP h) rfl Ng rfl rfl rfl rfl wz (d9 (([i,j]:List Int).map eI) nX Ce rfl rfl rfl rfl rfl wz ?_)
 obtain ⟨e,f,a⟩:=bind_some a
 refine aD (lT f) rfl Ou rfl rfl rfl rfl wz (aa (vI e) (ah ?_))
 obtain rfl:=ae a
 exact aB (aM [(vI e)] ⟨rfl,trivial⟩)
end
theorem rQ {x r:(List Debt)} (c:fT x=some r) :
  FnM Tryz.prog 51 [(dV (ax 0) 4 x),(.fn 52 [])] (([]:List Box)++gI 4 Debt.enc x) (.tup []) (([]:List Box).map some++gT x (gB 4 Debt.enc r)) :=
 JI (dp:=1) (λ_=>rfl) (E:=Debt.enc) (F:=λa b=>nI a b) (λ_=>rfl) (λa b r h=>DI (dM:=dmT) h) hb52 (λβ _ enc hk h1 cf hO g cb blk off cap d w eg hcmp hH hblk hsz=>Tryz.slices_SortFunc_eq_f51 4 Tryz.isAgg54 Tryz.sizeOf54 enc hk h1 cf hO g cb blk off cap d w eg hcmp hH hblk hsz) (λp cap fv w=>Tryz.slices_SortFunc_none_f51 (α:=Nat) p cap fv w) c
theorem wN {c:(List Debt)} {r:(List Debt)} (h:kC c=some r) :
  FnM Tryz.prog 14 [(dV (ax 0) 4 c)] (([]:List Box)++gI 4 Debt.enc c) (.tup []) (([]:List Box).map some++gT c (gB 4 Debt.enc r)):=by
 refine FnM.of_wHv ⟨Tryz.prog,14,[],[]⟩ rfl Tryz.func14 rfl rfl (lb_ rfl) (by kernel_rfl) ?_
 unfold kC at h
 refine ai (cK 0 (.inl rfl) z54 rfl wz (λl=>ah (ai (aa (dV (ax 0) 4 c) (xq un49 rfl wz (aa (vI 0) (ah ?_)))))))
 obtain ⟨u,i,h⟩:=bind_some h
 obtain ⟨n,i⟩:=aS i
 refine bI (λ(a:List Debt)=>[]) (λ(a:List Debt)=>[((ax 0),gB 4 Debt.enc a),(l,some (.cells 4 [(vS (⟨#[]⟩:ByteArray)),(vS (⟨#[]⟩:ByteArray)),(vI 0),(vI 0)]))]) (λ(b:Nat)=>(λ(a:List Debt)=>[(0,(dV (ax 0) 4 a)),(2,(.ref l 0 0)),(5,(vI (c.length:Int))),(6,(vI (b:Int)))])) (λk x s=>jw k x s) u (List.range ((c.length:Int)).toNat) c i rfl (aG rfl) ?_ ?_
 ·rintro ⟨b,j,a⟩ ⟨g,f⟩
  dsimp only at g f
  cases j with
  | nil =>
   obtain rfl:=ae g
   refine ai (aa (vB (decide ((b:Int)<(c.length:Int)))) (ah ?_))
   refine ak (ay rfl (mq f) (aX ?_))
   exact aU (a) rfl rfl (aG rfl)
  | cons B j =>
   obtain ⟨w,e,g⟩:=bind_some g
   refine ai (aa (vB (decide ((b:Int)<(c.length:Int)))) (ah ?_))
   refine ak (aA rfl (kP f) (av ?_))
   unfold jw at e
   refine ak (aK (ai (aa (vI (b:Int)) (aa (vI (b:Int)) (ah (au (aa (dV (ax 0) 4 a) (aa (vI (b:Int)) (aC 0 1 il ft sz54 ag54 rfl rfl (.d (.agg (Debt.enc (⟨(⟨#[]⟩:ByteArray),(⟨#[]⟩:ByteArray),0,0⟩:Debt)))) rfl wz ?_)))))))))
   obtain ⟨_,m,e⟩:=bind_some e
   refine jb es49 rfl rfl (gU m) (dU m) wz ?_
   obtain ⟨y,t,e⟩:=bind_some e
   refine pM 0 il ft 0 sz54 rfl rfl t (⟨(⟨#[]⟩:ByteArray),(⟨#[]⟩:ByteArray),0,0⟩:Debt) rfl wz (bU (v':=(dV (ax 0) 4 (a.set (0+((b:Int)).toNat) (⟨(⟨#[]⟩:ByteArray),(⟨#[]⟩:ByteArray),0,0⟩:Debt)))) 0 rfl (bQ (by simp)) (bU (v':=(dV (ax 0) 4 (a.set (0+((b:Int)).toNat) (⟨(⟨#[]⟩:ByteArray),(⟨#[]⟩:ByteArray),0,0⟩:Debt)))) 9 rfl (bQ (by simp)) (ah (au (dE (mD f n) wz rfl (aa (vI ((b+1:Nat):Int)) (ah ?_)))))))
   obtain rfl:=ae e
   exact aV (b+1,j,(a.set (0+((b:Int)).toNat) (⟨(⟨#[]⟩:ByteArray),(⟨#[]⟩:ByteArray),0,0⟩:Debt))) ⟨g,aP f⟩ (ls_ _) rfl (aG rfl)
 ·rintro a p A v z q
  subst p
  show pR _ _ _ _ _ _ _ _
  obtain rfl:=ae h
  exact nV (H0:=([((ax 0),gB 4 Debt.enc a),(l,some (.cells 4 [(vS (⟨#[]⟩:ByteArray)),(vS (⟨#[]⟩:ByteArray)),(vI 0),(vI 0)]))]:Hp)) (sl':=envS []) q (u6 (bs:=([]:List Box)) (os:=([]:List Box)) (xs:=c) (o:=gB 4 Debt.enc a) (.inl rfl) [] trivial rfl rfl rfl rfl rfl (by kernel_rfl) jP rfl)
theorem FM {j:(List Alert)} {l:(List Post)} {R:(List Receipt)} {f:Int} {m:Int} {r:(List Debt)×Int} (h:tK j l R f m=some r) :
  FnM Tryz.prog 13 [(vL Alert.enc j),(vL Post.enc l),(vL Receipt.enc R),(vI f),(vI m)] [] (wY [.int .i64 r.2] (gV (ax 0) 4 r.1)) (([]:List Box).map some++gO 4 Debt.enc r.1):=by
 refine FnM.of_wH ⟨Tryz.prog,122,[],[]⟩ rfl Tryz.func13 rfl rfl (lb_ rfl) (by kernel_rfl) ?_
 unfold tK at h
 refine ai (aa .nil (aa (vI 0) (ah (ak (ai (aa (vL Alert.enc j) (aa (vL Post.enc l) (aa (vL Receipt.enc R) ?_))))))))
 obtain ⟨M,Ü,h⟩:=bind_some h
 refine aD (CJ Ü) rfl hb45 rfl rfl rfl rfl wz (aa (vI M) (ah (ai (aa (vI M) (aa (vB (M != 0)) (ah ?_))))))
 rcases aj h with⟨Æ,h⟩|⟨Æ,h⟩
 ·refine aA rfl Æ (ai (aa (vI M) (aa .nil (aa (vI M) (ah (jm (λê => ?_)))))))
  obtain rfl:=ae h
  exact aB (Bz (outs:=([]:List Box)) [.int .i64 M] (.inr rfl) 0 rfl ⟨rfl,trivial⟩ rfl rfl (by kernel_rfl) (by kernel_rfl))
 ·refine ay rfl Æ (av (ak (ak ?_)))
  obtain ⟨æ,F,h⟩:=bind_some h
  refine aR [(0,(vL Alert.enc j)),(1,(vL Post.enc l)),(2,(vL Receipt.enc R)),(3,(vI f)),(4,(vI m)),(36,(vB æ))] [] ?_ ?_
  ·refine au (aa (vI f) ?_)
   obtain ⟨ë,Ö,F⟩:=bind_some F
   refine aD (bJ Ö) rfl u7 rfl rfl rfl rfl wz ?_
   rcases aj F with⟨Z,F⟩|⟨Z,F⟩
   ·refine aF rfl Z wz (af (af (af (aa (vB true) (ah ?_)))))
    obtain rfl:=ae F
    exact cu
   ·refine aF rfl Z wz (aJ (vI m) wa rfl ?_)
    obtain ⟨Ñ,Ø,F⟩:=bind_some F
    refine aD (gQ Ø) rfl Jb rfl rfl rfl rfl wa (aJ (vB (!Ñ)) wa rfl (aa (vB (!Ñ)) (ah ?_)))
    obtain rfl:=ae F
    exact cu
  ·rintro ⟨⟩ _ Y U G H
   refine aN _ G H ?_
   rcases aj h with⟨À,h⟩|⟨À,h⟩
   ·refine aA rfl À (ai (aa .nil (aa (vI 1) (ah (jm (λé => ?_))))))
    obtain rfl:=ae h
    exact aB (Bz (outs:=([]:List Box)) [.int .i64 1] (.inr rfl) 0 rfl ⟨rfl,trivial⟩ rfl rfl (by kernel_rfl) (by kernel_rfl))
   ·refine ay rfl À (av (ai (aa (vL Receipt.enc R) (aa (vI m) ?_))))
    obtain ⟨g,Ù,h⟩:=bind_some h
    refine h_calln [] 1 (Gv Ù) rfl hb48 rfl (by kernel_rfl) (by kernel_rfl) (by kernel_rfl) (by kernel_rfl) (by kernel_rfl) (by kernel_rfl) (by kernel_rfl) (by decide) (by kernel_rfl) (by kernel_rfl) wz (λn=>(.map (n 0))) (λ_=>by kernel_rfl) (λn=>([((n 0),some (bM (λx=>D.agg (Pair.enc x)) (D.int .i64) g))]:Hp)) (λ_=>by kernel_rfl) ?_
    intro n
    refine aa (.map (n 0)) (ah (ai (aa (vL Alert.enc j) ?_)))
    obtain ⟨C,Ú,h⟩:=bind_some h
    refine aD (Bu Ú) rfl hb49 rfl rfl rfl rfl wz (aa (vL eI C) (ah (ai (aa .nil (ah (ak (ai (aa (vL Post.enc l) (bK OA rfl wz (aa (vI 0) (ah (jm (λâ => ?_)))))))))))))
    obtain ⟨ã,Ç,h⟩:=bind_some h
    obtain ⟨Õ,Ç⟩:=aS Ç
    refine gD (σ:=(List Debt)) (N:=Nm) (λp=>(λ(E:List Debt) (q:Nm)=>([(15,(gV q 4 E))]:SL_)) p.1 p.2) (λp=>(λ(E:List Debt) (q:Nm)=>([((n 0),some (bM (λx=>D.agg (Pair.enc x)) (D.int .i64) g)),(q,gB 4 Debt.enc E)]:Hp)) p.1 p.2) (λ(B:Nat)=>(λp=>(λ(E:List Debt) (q:Nm)=>([(0,(vL Alert.enc j)),(3,(vI f)),(4,(vI m)),(13,(.map (n 0))),(14,(vL eI C)),(15,(gV q 4 E)),(42,(vL Post.enc l)),(43,(vI (l.length:Int))),(44,(vI (B:Int)))]:SL_)) p.1 p.2)) (λk x s=>q8 j C m f g k x s) ã l (([]:List Debt),â) Ç rfl (aG rfl) ?_ ?_
    ·rintro ⟨B,Ê,E,q⟩ ⟨O,J⟩
     dsimp only at O J
     cases Ê with
     | nil =>
      obtain rfl:=ae O
      refine ai (aa (vB (decide ((B:Int)<(l.length:Int)))) (ah ?_))
      refine ak (ay rfl (drop_nil J) (aX ?_))
      exact aU (E,q) rfl rfl (aG rfl)
     | cons e Ê =>
      obtain ⟨Ô,W,O⟩:=bind_some O
      refine ai (aa (vB (decide ((B:Int)<(l.length:Int)))) (ah ?_))
      refine ak (aA rfl (aZ J) (av ?_))
      unfold q8 at W
      refine ak (aK (ai (dS Ll rfl rfl (bA J) rfl wz (bL BS Hm rfl (.d (.agg (Post.enc e))) rfl wz (cK 0 (.inl rfl) z65 rfl wz (λL=>gy 0 il ft 2 BS rfl rfl (Post.v e) rfl wz (ah (ai (aa (vL Alert.enc j) (bK uR rfl wz (aa (vI 0) (ah ?_))))))))))))
      obtain ⟨ä,È,W⟩:=bind_some W
      obtain ⟨Î,È⟩:=aS È
      refine gD (σ:=(List Debt)) (N:=Nm) (λp=>(λ(w:List Debt) (t:Nm)=>([(0,(vL Alert.enc j)),(3,(vI f)),(4,(vI m)),(13,(.map (n 0))),(14,(vL eI C)),(15,(gV t 4 w)),(42,(vL Post.enc l)),(43,(vI (l.length:Int))),(44,(vI (B:Int)))]:SL_)) p.1 p.2) (λp=>(λ(w:List Debt) (t:Nm)=>([((n 0),some (bM (λx=>D.agg (Pair.enc x)) (D.int .i64) g)),(t,gB 4 Debt.enc w),(L,some (.cells 3 (Post.v e)))]:Hp)) p.1 p.2) (λ(u:Nat)=>(λp=>(λ(w:List Debt) (t:Nm)=>([(0,(vL Alert.enc j)),(3,(vI f)),(4,(vI m)),(13,(.map (n 0))),(14,(vL eI C)),(15,(gV t 4 w)),(17,(.ref L 0 0)),(42,(vL Post.enc l)),(43,(vI (l.length:Int))),(44,(vI (B:Int))),(48,(vL Alert.enc j)),(49,(vI (j.length:Int))),(50,(vI (u:Int)))]:SL_)) p.1 p.2)) (λk x s=>mr C e m f g k x s) ä j (E,q) È rfl (aG rfl) ?_ ?_
      ·rintro ⟨u,X,w,t⟩ ⟨K,I⟩
       dsimp only at K I
       cases X with
       | nil =>
        obtain rfl:=ae K
        refine ai (aa (vB (decide ((u:Int)<(j.length:Int)))) (ah ?_))
        refine ak (ay rfl (drop_nil I) (aX ?_))
        exact aU (w,t) rfl rfl (aG rfl)
       | cons c X =>
        obtain ⟨Ô,A,K⟩:=bind_some K
        refine ai (aa (vB (decide ((u:Int)<(j.length:Int)))) (ah ?_))
        refine ak (aA rfl (aZ I) (av ?_))
        unfold mr at A
        refine ak (aK (ai (aa (vI (u:Int)) (dS mP rfl rfl (bA I) rfl wz (bL fO kv rfl (.d (.agg (Alert.enc c))) rfl wz (cK 0 (.inl rfl) z39 rfl wz (λË=>aa (vI (u:Int)) (gy 0 il ft 3 fO rfl rfl (Alert.v c) rfl wz (ah (ai (aH ll rfl 4 rfl wz (aC 0 3 il ft sz3 ag3 rfl rfl (vI c.At) rfl wz (aa (vI f) (aa (vI (w64 (c.At+f))) (aa (vI (w64 (c.At+f))) (ah (ak (ak ?_))))))))))))))))))
        obtain ⟨ç,o,A⟩:=bind_some A
        refine aR [(0,(vL Alert.enc j)),(3,(vI f)),(4,(vI m)),(13,(.map (n 0))),(14,(vL eI C)),(15,(gV t 4 w)),(17,(.ref L 0 0)),(19,(.ref Ë 0 0)),(20,(vI (w64 (c.At+f)))),(42,(vL Post.enc l)),(43,(vI (l.length:Int))),(44,(vI (B:Int))),(48,(vL Alert.enc j)),(49,(vI (j.length:Int))),(50,(vI (u:Int))),(80,(vB ç))] [((n 0),some (bM (λx=>D.agg (Pair.enc x)) (D.int .i64) g)),(t,gB 4 Debt.enc w),(L,some (.cells 3 (Post.v e))),(Ë,some (.cells 9 (Alert.v c)))] ?_ ?_
        ·refine bu (aC 0 3 (.inr (by kernel_rfl)) (λ_ _ ag=>trivial) fO kv rfl rfl (.d (.agg (Alert.enc c))) rfl wz (aa (vL eI C) (aa (vI (u:Int)) ?_)))
         obtain ⟨è,Þ,o⟩:=bind_some o
         refine dS nX rfl rfl Þ rfl wz (bL sz3 ag3 rfl (vI è) rfl wz (aC 5 2 (.inr (by kernel_rfl)) (λ_ _ ag=>⟨.inl ⟨rfl,rfl⟩,trivial⟩) BS Hm rfl rfl (.d (.agg (Post.enc e))) rfl wz (aa (vI m) ?_)))
         obtain ⟨å,Û,o⟩:=bind_some o
         refine aD (Fw Û) rfl hb50 rfl rfl rfl rfl wz (aa (vB (!å)) ?_)
         rcases aj o with⟨Á,o⟩|⟨Á,o⟩
         ·refine aF rfl Á wz (af (af (af (aa (vB true) (aa (vB true) (af (af (af (af (af (af (aa (vB true) (ah ?_)))))))))))))
          obtain rfl:=ae o
          exact cu
         ·refine aF rfl Á wz (aJ (vI (w64 (c.At+f))) wa rfl (aJ (vI m) wa rfl (aJ (vB (decide ((w64 (c.At+f))>=m))) wa rfl (aa (vB (decide ((w64 (c.At+f))>=m))) ?_))))
          rcases aj o with⟨Â,o⟩|⟨Â,o⟩
          ·refine aF rfl Â wz (af (af (af (af (af (af (aa (vB true) (ah ?_))))))))
           obtain rfl:=ae o
           exact cu
          ·refine aF rfl Â wz (aJ (vL eI C) wa rfl (aJ (vI (u:Int)) wa rfl ?_))
           obtain ⟨Í,ß,o⟩:=bind_some o
           refine dS nX rfl rfl ß rfl wa (bL sz3 ag3 rfl (vI Í) rfl wa (aJ (vI (w64 (c.At+f))) wa rfl (aJ (vB (decide (Í<(w64 (c.At+f))))) wa rfl (aa (vB (decide (Í<(w64 (c.At+f))))) (ah ?_)))))
           obtain rfl:=ae o
           exact cu
        ·rintro ⟨⟩ _ Y U G H
         refine aN _ G H ?_
         rcases aj A with⟨Ã,A⟩|⟨Ã,A⟩
         ·refine aA rfl Ã (aX (au (dE (bf I Î) wz rfl (aa (vI ((u+1:Nat):Int)) (ah ?_)))))
          obtain rfl:=ae A
          exact aV (u+1,X,w,t) ⟨K,aP I⟩ (ls_ _) rfl (aG rfl)
         ·refine ay rfl Ã (av (ai (aa (.map (n 0)) (aH BR rfl 0 rfl wz (aC 0 2 il ft sz9 ag9 rfl rfl (vS e.Player) rfl wz (aH lq rfl 0 rfl wz (aC 0 3 il ft sz9 ag9 rfl rfl (vS c.Id) rfl wz (aJ (.d (.agg (Pair.enc (⟨e.Player,c.Id⟩:Pair)))) wz (by kernel_rfl) (CZ (eq:=(λ(a b:Pair)=>(eqS a.f_player b.f_player&&(eqS a.f_alert b.f_alert&&true)))) (kD:=(λx=>D.agg (Pair.enc x))) (vD:=(D.int .i64)) (es:=g) (k:=(⟨e.Player,c.Id⟩:Pair)) (z:=0) 0 0 il ft (λ_ _=>rfl) mt94 (by kernel_rfl) (by kernel_rfl) rfl rfl rfl (.tup [(vI ((mGet (λ(a b:Pair)=>(eqS a.f_player b.f_player&&(eqS a.f_alert b.f_alert&&true))) g (⟨e.Player,c.Id⟩:Pair)).getD 0)),(vB ((mGet (λ(a b:Pair)=>(eqS a.f_player b.f_player&&(eqS a.f_alert b.f_alert&&true))) g (⟨e.Player,c.Id⟩:Pair)).isSome))]) rfl wz (aa (.tup [(vI ((mGet (λ(a b:Pair)=>(eqS a.f_player b.f_player&&(eqS a.f_alert b.f_alert&&true))) g (⟨e.Player,c.Id⟩:Pair)).getD 0)),(vB ((mGet (λ(a b:Pair)=>(eqS a.f_player b.f_player&&(eqS a.f_alert b.f_alert&&true))) g (⟨e.Player,c.Id⟩:Pair)).isSome))]) (aa (vI ((mGet (λ(a b:Pair)=>(eqS a.f_player b.f_player&&(eqS a.f_alert b.f_alert&&true))) g (⟨e.Player,c.Id⟩:Pair)).getD 0)) (aa (vB ((mGet (λ(a b:Pair)=>(eqS a.f_player b.f_player&&(eqS a.f_alert b.f_alert&&true))) g (⟨e.Player,c.Id⟩:Pair)).isSome)) (aa (vI ((mGet (λ(a b:Pair)=>(eqS a.f_player b.f_player&&(eqS a.f_alert b.f_alert&&true))) g (⟨e.Player,c.Id⟩:Pair)).getD 0)) (aa (vB ((mGet (λ(a b:Pair)=>(eqS a.f_player b.f_player&&(eqS a.f_alert b.f_alert&&true))) g (⟨e.Player,c.Id⟩:Pair)).isSome)) (ah (aK (ai (aa (vB ((mGet (λ(a b:Pair)=>(eqS a.f_player b.f_player&&(eqS a.f_alert b.f_alert&&true))) g (⟨e.Player,c.Id⟩:Pair)).isSome)) (aa (vB (!((mGet (λ(a b:Pair)=>(eqS a.f_player b.f_player&&(eqS a.f_alert b.f_alert&&true))) g (⟨e.Player,c.Id⟩:Pair)).isSome))) (aa (vB (!((mGet (λ(a b:Pair)=>(eqS a.f_player b.f_player&&(eqS a.f_alert b.f_alert&&true))) g (⟨e.Player,c.Id⟩:Pair)).isSome))) (ah ?_)))))))))))))))))))))
          obtain ⟨Ì,y,A⟩:=bind_some A
          refine kW (β:=Nm) (λ(Q:Nm)=>([(0,(vL Alert.enc j)),(3,(vI f)),(4,(vI m)),(13,(.map (n 0))),(14,(vL eI C)),(15,(gV Q 4 Ì)),(17,(.ref L 0 0)),(42,(vL Post.enc l)),(43,(vI (l.length:Int))),(44,(vI (B:Int))),(48,(vL Alert.enc j)),(49,(vI (j.length:Int))),(50,(vI (u:Int)))]:SL_)) (λ(Q:Nm)=>([((n 0),some (bM (λx=>D.agg (Pair.enc x)) (D.int .i64) g)),(Q,gB 4 Debt.enc Ì),(L,some (.cells 3 (Post.v e))),(Ë,some (.cells 9 (Alert.v c)))]:Hp)) (λ_=>True) ?_ ?_
          ·rcases aj y with⟨Ä,y⟩|⟨Ä,y⟩
           ·refine aA rfl Ä (au (aa (gV t 4 w) (aH BR rfl 0 rfl wz (aC 0 2 il ft sz9 ag9 rfl rfl (vS e.Player) rfl wz (aH lq rfl 0 rfl wz (aC 0 3 il ft sz9 ag9 rfl rfl (vS c.Id) rfl wz (aa (vI (w64 (c.At+f))) (aJ (.d (.agg (Debt.enc (⟨e.Player,c.Id,(w64 (c.At+f)),(-1)⟩:Debt)))) wz (by kernel_rfl) (d9 (([(⟨e.Player,c.Id,(w64 (c.At+f)),(-1)⟩:Debt)]:List Debt).map Debt.enc) es49 ez49 rfl rfl rfl rfl rfl wz ?_)))))))))
            obtain ⟨Ò,à,y⟩:=bind_some y
            refine lh 0 il ft (i:=1) el49 el49 sz54 z54 rfl (by decide) by54 (by decide) (λ_=>rfl) rfl rfl rfl à wz (λÏ=>aa (gV Ï 4 Ò) (ah ?_))
            obtain rfl:=ae y
            exact aU Ï trivial rfl (aG rfl)
           ·refine ay rfl Ä (ai (aa (vI ((mGet (λ(a b:Pair)=>(eqS a.f_player b.f_player&&(eqS a.f_alert b.f_alert&&true))) g (⟨e.Player,c.Id⟩:Pair)).getD 0)) (aa (vI (w64 (c.At+f))) (aa (vB (decide (((mGet (λ(a b:Pair)=>(eqS a.f_player b.f_player&&(eqS a.f_alert b.f_alert&&true))) g (⟨e.Player,c.Id⟩:Pair)).getD 0)>(w64 (c.At+f))))) (aa (vB (decide (((mGet (λ(a b:Pair)=>(eqS a.f_player b.f_player&&(eqS a.f_alert b.f_alert&&true))) g (⟨e.Player,c.Id⟩:Pair)).getD 0)>(w64 (c.At+f))))) (ah ?_))))))
            rcases aj y with⟨Å,y⟩|⟨Å,y⟩
            ·refine aA rfl Å (au (aa (gV t 4 w) (aH BR rfl 0 rfl wz (aC 0 2 il ft sz9 ag9 rfl rfl (vS e.Player) rfl wz (aH lq rfl 0 rfl wz (aC 0 3 il ft sz9 ag9 rfl rfl (vS c.Id) rfl wz (aa (vI (w64 (c.At+f))) (aa (vI ((mGet (λ(a b:Pair)=>(eqS a.f_player b.f_player&&(eqS a.f_alert b.f_alert&&true))) g (⟨e.Player,c.Id⟩:Pair)).getD 0)) (aJ (.d (.agg (Debt.enc (⟨e.Player,c.Id,(w64 (c.At+f)),((mGet (λ(a b:Pair)=>(eqS a.f_player b.f_player&&(eqS a.f_alert b.f_alert&&true))) g (⟨e.Player,c.Id⟩:Pair)).getD 0)⟩:Debt)))) wz (by kernel_rfl) (d9 (([(⟨e.Player,c.Id,(w64 (c.At+f)),((mGet (λ(a b:Pair)=>(eqS a.f_player b.f_player&&(eqS a.f_alert b.f_alert&&true))) g (⟨e.Player,c.Id⟩:Pair)).getD 0)⟩:Debt)]:List Debt).map Debt.enc) es49 ez49 rfl rfl rfl rfl rfl wz ?_))))))))))
             obtain ⟨Ó,á,y⟩:=bind_some y
             refine lh 0 il ft (i:=1) el49 el49 sz54 z54 rfl (by decide) by54 (by decide) (λ_=>rfl) rfl rfl rfl á wz (λÐ=>aa (gV Ð 4 Ó) (ah ?_))
             obtain rfl:=ae y
             exact aU Ð trivial rfl (aG rfl)
            ·refine ay rfl Å (av ?_)
             obtain rfl:=ae y
             exact aU t trivial rfl (aG rfl)
          ·rintro Q _ Y U G H
           refine aN _ G H (au (dE (bf I Î) wz rfl (aa (vI ((u+1:Nat):Int)) (ah ?_))))
           obtain rfl:=ae A
           exact aV (u+1,X,Ì,Q) ⟨K,aP I⟩ (ls_ _) rfl (aG rfl)
      ·rintro ⟨w,t⟩ É Y U G H
       subst É
       refine aN _ G H (au (dE (bf J Õ) wz rfl (aa (vI ((B+1:Nat):Int)) (ah ?_))))
       obtain rfl:=ae W
       exact aV (B+1,Ê,w,t) ⟨O,aP J⟩ (ls_ _) rfl (aG rfl)
    ·rintro ⟨E,q⟩ É Y U G H
     subst É
     refine aN _ G H (ai (aa (gV q 4 E) ?_))
     obtain ⟨T,Ý,h⟩:=bind_some h
     obtain ⟨_,P,h⟩:=bind_some h
     replace P:=jO P
     refine kG 0 [] 1 0 il ft (rQ Ý) rfl hb51 rfl rfl rfl (by kernel_rfl) rfl (.inl rfl) rfl (by kernel_rfl) (by kernel_rfl) (by kernel_rfl) (by kernel_rfl) rfl (by decide) (by kernel_rfl) jP (tQ P) wz ([((n 0),some (bM (λx=>D.agg (Pair.enc x)) (D.int .i64) g)),(q,gB 4 Debt.enc T)]:Hp) (by kernel_rfl) (bU (v':=(gV q 4 T)) 119 rfl (fM P.symm) (bU (v':=(gV q 4 T)) 15 rfl (fM P.symm) (ah (ai (aa (gV q 4 T) (aa (gV q 4 T) (aa (vI 0) (ah ?_))))))))
     obtain rfl:=ae h
     exact aB (Bz (outs:=([]:List Box)) [.int .i64 0] (.inr rfl) 1 rfl ⟨rfl,trivial⟩ rfl rfl (by kernel_rfl) (by kernel_rfl))
theorem zO {b:Int} {r:Int} (a:nQ b=some r) :
  FnM Tryz.prog 55 [(vI b)] [] (vI r) []:=by
 refine FnM.of_wH ⟨Tryz.prog,6,[],[]⟩ rfl Tryz.func55 rfl rfl (lb_ rfl) (by kernel_rfl) ?_
 unfold nQ at a
 refine ai (aa (vI 0) (ah (ak (ai (aa (vI b) ?_)))))
 obtain ⟨e,d,a⟩:=bind_some a
 refine aD (gQ d) rfl Jb rfl rfl rfl rfl wz (aa (vB (!e)) (ah ?_))
 rcases aj a with⟨c,a⟩|⟨c,a⟩
 ·refine aA rfl c (ai (aa (vI 1) (ah ?_)))
  obtain rfl:=ae a
  exact aB (aM [(vI 1)] ⟨rfl,trivial⟩)
 ·refine ay rfl c (av (ai (aa (vI 0) (ah ?_))))
  obtain rfl:=ae a
  exact aB (aM [(vI 0)] ⟨rfl,trivial⟩)
theorem I8 {a:Alert} {e:Int} {b:Int} {r:Bool} (f:vU a e b=some r) :
  FnM Tryz.prog 83 [(.d (.agg (Alert.enc a))),(vI e),(vI b)] [] (vB r) []:=by
 refine FnM.of_wH ⟨Tryz.prog,21,[],[]⟩ rfl Tryz.func83 rfl rfl (lb_ rfl) (by kernel_rfl) ?_
 unfold vU at f
 refine ai (fe 0 (.inl rfl) (Alert.v a) rfl rfl wz (λl=>aa (vB false) (ah (ak ?_))))
 obtain ⟨i,c,f⟩:=bind_some f
 refine aR [(6,(vB i))] [(l,some (.cells 9 (Alert.v a)))] ?_ ?_
 ·refine au (aH xk rfl 2 rfl wz (aC 0 0 il ft sz3 ag3 rfl rfl (vI a.Kind) rfl wz (aa (vB (a.Kind != 3)) ?_)))
  rcases aj c with⟨g,c⟩|⟨g,c⟩
  ·refine aF rfl g wz (aH ll rfl 4 rfl wa (aC 0 0 il ft sz3 ag3 rfl rfl (vI a.At) rfl wa (aJ (vI b) wa rfl (aJ (vB (decide (a.At<=b))) wa rfl (aa (vB (decide (a.At<=b))) ?_)))))
   rcases aj c with⟨h,c⟩|⟨h,c⟩
   ·refine aF rfl h wz (aJ (vI b) wa rfl (aJ (vI e) wa rfl (aJ (vB (decide (b<e))) wa rfl (aa (vB (decide (b<e))) (aa (vB (decide (b<e))) (ah ?_))))))
    obtain rfl:=ae c
    exact cu
   ·refine aF rfl h wz (af (af (af (aa (vB false) (aa (vB false) (ah ?_))))))
    obtain rfl:=ae c
    exact cu
  ·refine aF rfl g wz (af (af (af (af (aa (vB false) (aa (vB false) (af (af (af (aa (vB false) (aa (vB false) (ah ?_))))))))))))
   obtain rfl:=ae c
   exact cu
 ·rintro ⟨⟩ _ n m j k
  refine aN _ j k ?_
  obtain rfl:=ae f
  exact aB (aM [(vB i)] ⟨rfl,trivial⟩)
theorem FE {b:Alert} {c:Alert} {r:Int} (a:pE b c=some r) :
  FnM Tryz.prog 84 [(.d (.agg (Alert.enc b))),(.d (.agg (Alert.enc c)))] [] (vI r) []:=by
 refine FnM.of_wH ⟨Tryz.prog,22,[],[]⟩ rfl Tryz.func84 rfl rfl (lb_ rfl) (by kernel_rfl) ?_
 unfold pE at a
 refine ai (fe 0 (.inl rfl) (Alert.v b) rfl rfl wz (λm=>fe 0 (.inl rfl) (Alert.v c) rfl rfl wz (λn=>aa (vI 0) (ah (ak (bu (aH Em rfl 6 rfl wz (aC 1 1 (.inr (by kernel_rfl)) (λ_ _ ag=>trivial) sz3 ag3 rfl rfl (vI c.Weight) rfl wz (aH Em rfl 6 rfl wz (aC 3 0 (.inr (by kernel_rfl)) (λ_ _ ag=>⟨.inl ⟨rfl,rfl⟩,trivial⟩) sz3 ag3 rfl rfl (vI b.Weight) rfl wz ?_))))))))))
 obtain ⟨j,h,a⟩:=bind_some a
 refine aD (iX h) rfl NN rfl rfl rfl rfl wz (aH ll rfl 4 rfl wz (aC 6 1 (.inr (by kernel_rfl)) (λ_ _ ag=>⟨.inl ⟨rfl,rfl⟩,⟨.inl ⟨rfl,rfl⟩,trivial⟩⟩) sz3 ag3 rfl rfl (vI c.At) rfl wz (aH ll rfl 4 rfl wz (aC 8 0 (.inr (by kernel_rfl)) (λ_ _ ag=>⟨.inl ⟨rfl,rfl⟩,⟨.inl ⟨rfl,rfl⟩,⟨.inl ⟨rfl,rfl⟩,trivial⟩⟩⟩) sz3 ag3 rfl rfl (vI b.At) rfl wz ?_))))
 obtain ⟨k,i,a⟩:=bind_some a
 refine aD (iX i) rfl NN rfl rfl rfl rfl wz (aH lq rfl 0 rfl wz (aC 11 0 (.inr (by kernel_rfl)) (λ_ _ ag=>⟨.inl ⟨rfl,rfl⟩,⟨.inl ⟨rfl,rfl⟩,⟨.inl ⟨rfl,rfl⟩,⟨.inl ⟨rfl,rfl⟩,trivial⟩⟩⟩⟩) sz9 ag9 rfl rfl (vS b.Id) rfl wz (aH lq rfl 0 rfl wz (aC 13 1 (.inr (by kernel_rfl)) (λ_ _ ag=>⟨.inl ⟨rfl,rfl⟩,⟨.inl ⟨rfl,rfl⟩,⟨.inl ⟨rfl,rfl⟩,⟨.inl ⟨rfl,rfl⟩,⟨.inl ⟨rfl,rfl⟩,trivial⟩⟩⟩⟩⟩) sz9 ag9 rfl rfl (vS c.Id) rfl wz ?_))))
 obtain ⟨l,f,a⟩:=bind_some a
 refine aD (gP f) rfl Ng rfl rfl rfl rfl wz (d9 (([j,k,l]:List Int).map eI) nX Ce rfl rfl rfl rfl rfl wz ?_)
 obtain ⟨e,g,a⟩:=bind_some a
 refine aD (lT g) rfl Ou rfl rfl rfl rfl wz (aa (vI e) (ah ?_))
 obtain rfl:=ae a
 exact aB (aM [(vI e)] ⟨rfl,trivial⟩)
theorem mO {k:(List Alert)} {f:Int} {h:Int} {r:(List Alert)} (p:gq k f h=some r) :
  FnM Tryz.prog 97 [(dV (ax 0) 9 k),(vI f),(vI h),(.fn 84 [])] (([]:List Box)++gI 9 Alert.enc k) (.tup []) (([]:List Box).map some++gT k (gB 9 Alert.enc r)):=by
 refine FnM.of_wHv ⟨Tryz.prog,53,[],[]⟩ rfl Tryz.func97 rfl rfl (lb_ rfl) (by kernel_rfl) ?_
 unfold gq at p
 refine ai (aa (vI f) (aa (vI (w64 (f+1))) (aa (vI (w64 (f+1))) (ah ?_))))
 obtain ⟨Z,y,p⟩:=bind_some p
 obtain ⟨Y,y⟩:=dI y
 refine fu (λ(c:(List Alert)×Int)=>[]) (λ(c:(List Alert)×Int)=>[((ax 0),gB 9 Alert.enc c.1)]) (λ(u:Nat)=>(λ(c:(List Alert)×Int)=>[(0,(dV (ax 0) 9 c.1)),(1,(vI f)),(2,(vI h)),(3,(.fn 84 [])),(8,(vI c.2))])) (λs=>fA h f s) Z Y (k,(w64 (f+1))) y rfl (aG rfl) ?_ ?_
 ·rintro ⟨u,c⟩ l
  dsimp only at l
  cases u with
  | zero=>cases l
  | succ u =>
   obtain ⟨L,j,l⟩:=bind_some l
   unfold fA at j
   refine ak (ai (aa (vI c.2) (aa (vI h) (aa (vB (decide (c.2<h))) (ah ?_)))))
   rcases aj j with⟨v,j⟩|⟨v,j⟩
   ·refine aA rfl v (av (ak (aK (ai (aa (vI c.2) (aa (vI c.2) (ah ?_)))))))
    obtain ⟨À,z,j⟩:=bind_some j
    obtain ⟨X,z⟩:=dI z
    refine fu (λ(a:(List Alert)×Int)=>[(0,(dV (ax 0) 9 a.1)),(1,(vI f)),(2,(vI h)),(3,(.fn 84 [])),(8,(vI c.2))]) (λ(a:(List Alert)×Int)=>[((ax 0),gB 9 Alert.enc a.1)]) (λ(t:Nat)=>(λ(a:(List Alert)×Int)=>[(0,(dV (ax 0) 9 a.1)),(1,(vI f)),(2,(vI h)),(3,(.fn 84 [])),(8,(vI c.2)),(9,(vI a.2))])) (λs=>fE f s) À X (c.1,c.2) z rfl (aG rfl) ?_ ?_
    ·rintro ⟨t,a⟩ m
     dsimp only at m
     cases t with
     | zero=>cases m
     | succ t =>
      obtain ⟨L,b,m⟩:=bind_some m
      unfold fE at b
      refine ak (ak ?_)
      obtain ⟨Á,e,b⟩:=bind_some b
      refine aR [(0,(dV (ax 0) 9 a.1)),(1,(vI f)),(2,(vI h)),(3,(.fn 84 [])),(8,(vI c.2)),(9,(vI a.2)),(34,(vB Á))] [((ax 0),gB 9 Alert.enc a.1)] ?_ ?_
      ·refine bu (aa (vI a.2) (aa (vI f) (aa (vB (decide (a.2>f))) ?_)))
       rcases aj e with⟨w,e⟩|⟨w,e⟩
       ·refine aF rfl w wz (aJ (.fn 84 []) wa rfl (aJ (dV (ax 0) 9 a.1) wa rfl (aJ (vI a.2) wa rfl ?_)))
        obtain ⟨_,C,e⟩:=bind_some e
        refine jb mP rfl rfl (gU C) (dU C) wa ?_
        obtain ⟨M,P,e⟩:=bind_some e
        refine jq 8 0 (.inr (by kernel_rfl)) (λ_ _ ag=>trivial) fO kv rfl rfl P (.d (.agg (Alert.enc M))) rfl wa (aJ (dV (ax 0) 9 a.1) wa rfl (aJ (vI a.2) wa rfl (aJ (vI (w64 (a.2-1))) wa rfl ?_)))
        obtain ⟨_,E,e⟩:=bind_some e
        refine jb mP rfl rfl (gU E) (dU E) wa ?_
        obtain ⟨N,Q,e⟩:=bind_some e
        refine jq 13 0 (.inr (by kernel_rfl)) (λ_ _ ag=>⟨.inl ⟨rfl,rfl⟩,trivial⟩) fO kv rfl rfl Q (.d (.agg (Alert.enc N))) rfl wa ?_
        obtain ⟨J,O,e⟩:=bind_some e
        refine aD (FE O) rfl hb84 rfl rfl rfl rfl wa (aJ (vB (decide (J<0))) wa rfl (aa (vB (decide (J<0))) (ah ?_)))
        obtain rfl:=ae e
        exact cu
       ·refine aF rfl w wz (af (af (af (af (af (af (af (af (af (af (af (af (aa (vB false) (ah ?_))))))))))))))
        obtain rfl:=ae e
        exact cu
      ·rintro ⟨⟩ _ K B q n
       refine aN _ q n ?_
       rcases aj b with⟨x,b⟩|⟨x,b⟩
       ·refine aA rfl x (av (ak (aK (bu (aa (dV (ax 0) 9 a.1) (aa (vI a.2) (aa (dV (ax 0) 9 a.1) (aa (vI a.2) (aa (vI (w64 (a.2-1))) (aa (dV (ax 0) 9 a.1) (aa (vI a.2) (aa (vI (w64 (a.2-1))) ?_))))))))))))
        obtain ⟨_,F,b⟩:=bind_some b
        refine jb mP rfl rfl (gU F) (dU F) wz ?_
        obtain ⟨g,R,b⟩:=bind_some b
        refine jq 9 0 (.inr (by kernel_rfl)) (λ_ _ ag=>trivial) fO kv rfl rfl R (.d (.agg (Alert.enc g))) rfl wz (aa (dV (ax 0) 9 a.1) (aa (vI a.2) ?_))
        obtain ⟨_,G,b⟩:=bind_some b
        refine jb mP rfl rfl (gU G) (dU G) wz ?_
        obtain ⟨i,T,b⟩:=bind_some b
        refine jq 13 0 (.inr (by kernel_rfl)) (λ_ _ ag=>⟨.inl ⟨rfl,rfl⟩,trivial⟩) fO kv rfl rfl T (.d (.agg (Alert.enc i))) rfl wz ?_
        obtain ⟨_,H,b⟩:=bind_some b
        refine jb mP rfl rfl (gU H) (dU H) wz ?_
        obtain ⟨Â,U,b⟩:=bind_some b
        refine pM 15 (.inr (by kernel_rfl)) (λ_ _ ag=>⟨.inr (.inr (by kernel_rfl)),⟨.inr (.inr (by kernel_rfl)),trivial⟩⟩) 0 fO rfl rfl U g rfl wz (bU (v':=(dV (ax 0) 9 (a.1.set (0+(a.2).toNat) g))) 0 rfl (bQ (by simp)) (bU (v':=(dV (ax 0) 9 (a.1.set (0+(a.2).toNat) g))) 37 rfl (bQ (by simp)) (bU (v':=(dV (ax 0) 9 (a.1.set (0+(a.2).toNat) g))) 39 rfl (bQ (by simp)) (bU (v':=(dV (ax 0) 9 (a.1.set (0+(a.2).toNat) g))) 42 rfl (bQ (by simp)) (bU (v':=(dV (ax 0) 9 (a.1.set (0+(a.2).toNat) g))) 47 rfl (bQ (by simp)) ?_)))))
        obtain ⟨_,I,b⟩:=bind_some b
        refine jb mP rfl rfl (gU I) (dU I) wz ?_
        obtain ⟨Ã,W,b⟩:=bind_some b
        refine pM 17 (.inr (by kernel_rfl)) (λ_ _ ag=>⟨.inr (.inr (by kernel_rfl)),⟨.inr (.inr (by kernel_rfl)),⟨.inr (.inr (by kernel_rfl)),trivial⟩⟩⟩) 0 fO rfl rfl W i rfl wz (bU (v':=(dV (ax 0) 9 ((a.1.set (0+(a.2).toNat) g).set (0+((w64 (a.2-1))).toNat) i))) 0 rfl (bQ (by simp)) (bU (v':=(dV (ax 0) 9 ((a.1.set (0+(a.2).toNat) g).set (0+((w64 (a.2-1))).toNat) i))) 37 rfl (bQ (by simp)) (bU (v':=(dV (ax 0) 9 ((a.1.set (0+(a.2).toNat) g).set (0+((w64 (a.2-1))).toNat) i))) 39 rfl (bQ (by simp)) (bU (v':=(dV (ax 0) 9 ((a.1.set (0+(a.2).toNat) g).set (0+((w64 (a.2-1))).toNat) i))) 42 rfl (bQ (by simp)) (bU (v':=(dV (ax 0) 9 ((a.1.set (0+(a.2).toNat) g).set (0+((w64 (a.2-1))).toNat) i))) 47 rfl (bQ (by simp)) (ah (au (aa (vI a.2) (aa (vI (w64 (a.2-1))) (aa (vI (w64 (a.2-1))) (ah ?_)))))))))))
        obtain rfl:=ae b
        exact aV (t,(((a.1.set (0+(a.2).toNat) g).set (0+((w64 (a.2-1))).toNat) i),(w64 (a.2-1)))) m (ls_ _) rfl (aG rfl)
       ·refine ay rfl x (aX ?_)
        obtain rfl:=ae b
        obtain rfl:=ae m
        exact aU ((a.1,a.2)) rfl rfl (aG rfl)
    ·rintro a A K B q n
     subst A
     refine aN _ q n (au (aa (vI c.2) (aa (vI (w64 (c.2+1))) (aa (vI (w64 (c.2+1))) (ah ?_)))))
     obtain rfl:=ae j
     exact aV (u,(a.1,(w64 (c.2+1)))) l (ls_ _) rfl (aG rfl)
   ·refine ay rfl v (aX ?_)
    obtain rfl:=ae j
    obtain rfl:=ae l
    exact aU ((c.1,c.2)) rfl rfl (aG rfl)
 ·rintro c A K B q n
  subst A
  show pR _ _ _ _ _ _ _ _
  obtain rfl:=ae p
  exact nV (H0:=([((ax 0),gB 9 Alert.enc c.1)]:Hp)) (sl':=envS []) n (u6 (bs:=([]:List Box)) (os:=([]:List Box)) (xs:=k) (o:=gB 9 Alert.enc c.1) (.inl rfl) [] trivial rfl rfl rfl rfl rfl (by kernel_rfl) jP rfl)
theorem o6 {a:(List Alert)} {c:Int} {d:Int} {e:Int} {r:(List Alert)} (f:iR a c d e=some r) :
  FnM Tryz.prog 64 [(dV (ax 0) 9 a),(vI c),(vI d),(vI e),(.fn 84 [])] (([]:List Box)++gI 9 Alert.enc a) (.tup []) (([]:List Box).map some++gT a (gB 9 Alert.enc r)):=by
 refine FnM.of_wHv ⟨Tryz.prog,148,[],[]⟩ rfl Tryz.func64 rfl rfl (lb_ rfl) (by kernel_rfl) ?_
 unfold iR at f
 refine ai (aa (vB true) (ah (ai (aa (vB true) (ah ?_)))))
 obtain ⟨v,m,f⟩:=bind_some f
 obtain ⟨u,m⟩:=dI m
 refine fu (λ(j:Unit)=>[]) (λ(j:Unit)=>[((ax 0),gB 9 Alert.enc a)]) (λ(n:Nat)=>(λ(j:Unit)=>[(0,(dV (ax 0) 9 a)),(1,(vI c)),(2,(vI d)),(3,(vI e)),(4,(.fn 84 [])),(10,(vB true)),(11,(vB true))])) (λs=>gZ d c a e s) v u () m rfl (aG rfl) ?_ ?_
 ·rintro ⟨n,j⟩ g
  dsimp only at g
  cases n with
  | zero=>cases g
  | succ n =>
   obtain ⟨x,b,g⟩:=bind_some g
   unfold gZ at b
   refine aK (ai (aa (vI d) (aa (vI c) (aa (vI (w64 (d-c))) (aa (vI (w64 (d-c))) (ah (ak (ai (aa (vI (w64 (d-c))) (aa (vB (decide ((w64 (d-c))<=12))) (ah ?_)))))))))))
   rcases aj b with⟨k,b⟩|⟨k,b⟩
   ·refine aA rfl k (ai (aa (dV (ax 0) 9 a) (aa (vI c) (aa (vI d) (aa (.fn 84 []) ?_)))))
    obtain ⟨i,t,b⟩:=bind_some b
    obtain ⟨_,h,b⟩:=bind_some b
    replace h:=jO h
    refine kG 0 [] 0 0 il ft (mO t) rfl hb97 rfl rfl rfl (by kernel_rfl) rfl (.inr (.inl rfl)) rfl (by kernel_rfl) (by kernel_rfl) (by kernel_rfl) (by kernel_rfl) rfl (by decide) (by kernel_rfl) jP (tQ h) wz ([((ax 0),gB 9 Alert.enc i)]:Hp) (by kernel_rfl) (bU (v':=(dV (ax 0) 9 i)) 0 rfl (bQ h.symm) (bU (v':=(dV (ax 0) 9 i)) 26 rfl (bQ h.symm) (ah ?_)))
    obtain rfl:=ae b
    obtain rfl:=ae g
    obtain rfl:=ae f
    exact aB (u6 (bs:=([]:List Box)) (os:=([]:List Box)) (xs:=a) (o:=gB 9 Alert.enc i) (.inr rfl) [] trivial rfl rfl rfl rfl rfl (by kernel_rfl) jP rfl)
   ·refine ay rfl k (av (ak (ai (aa (vI e) (aa (vB (e==0)) (ah ?_))))))
    rcases aj b with⟨l,b⟩|⟨l,b⟩
    ·refine aA rfl l (ai (aa (dV (ax 0) 9 a) (aa (vI c) (aa (vI d) (aa (.fn 84 []) ?_)))))
     cases b
    ·refine ay rfl l (av (ak (ai (aa (vB true) (aa (vB false) (ah (ay rfl rfl (av (ai (aa (dV (ax 0) 9 a) (aa (vI c) (aa (vI d) (aa (.fn 84 []) ?_)))))))))))))
     cases b
 ·rintro j p z w y q
  subst p
  show pR _ _ _ _ _ _ _ _
  obtain rfl:=ae f
  exact nV (H0:=([((ax 0),gB 9 Alert.enc a)]:Hp)) (sl':=envS []) q (u6 (bs:=([]:List Box)) (os:=([]:List Box)) (xs:=a) (o:=gB 9 Alert.enc a) (.inl rfl) [] trivial rfl rfl rfl rfl rfl (by kernel_rfl) jP rfl)
theorem nu {a:(List Alert)} {r:(List Alert)} (b:dB a=some r) :
  FnM Tryz.prog 27 [(dV (ax 0) 9 a),(.fn 84 [])] (([]:List Box)++gI 9 Alert.enc a) (.tup []) (([]:List Box).map some++gT a (gB 9 Alert.enc r)):=by
 refine FnM.of_wHv ⟨Tryz.prog,14,[],[]⟩ rfl Tryz.func27 rfl rfl (lb_ rfl) (by kernel_rfl) ?_
 unfold dB at b
 refine ai (aa (dV (ax 0) 9 a) (xq uR rfl wz (aa (vI (a.length:Int)) (ah (au (aa (dV (ax 0) 9 a) (aa (vI (a.length:Int)) (aa (vI (a.length:Int)) (zP un3 Ju rfl wz ?_)))))))))
 obtain ⟨g,e,b⟩:=bind_some b
 refine aD (pg e) rfl hb65 rfl rfl rfl rfl wz (aa (.fn 84 []) ?_)
 obtain ⟨d,f,b⟩:=bind_some b
 obtain ⟨_,c,b⟩:=bind_some b
 replace c:=jO c
 refine kG 0 [] 0 0 il ft (o6 f) rfl hb64 rfl rfl rfl (by kernel_rfl) rfl (.inr (.inl rfl)) rfl (by kernel_rfl) (by kernel_rfl) (by kernel_rfl) (by kernel_rfl) rfl (by decide) (by kernel_rfl) jP (tQ c) wz ([((ax 0),gB 9 Alert.enc d)]:Hp) (by kernel_rfl) (bU (v':=(dV (ax 0) 9 d)) 0 rfl (bQ c.symm) (bU (v':=(dV (ax 0) 9 d)) 5 rfl (bQ c.symm) (bU (v':=(dV (ax 0) 9 d)) 7 rfl (bQ c.symm) (ah ?_))))
 show pR _ _ _ _ _ _ _ _
 obtain rfl:=ae b
 exact u6 (bs:=([]:List Box)) (os:=([]:List Box)) (xs:=a) (o:=gB 9 Alert.enc d) (.inl rfl) [] trivial rfl rfl rfl rfl rfl (by kernel_rfl) jP rfl
end Go.Proofs.YtadpbmfnnlkdlacGreatDoor.Law

