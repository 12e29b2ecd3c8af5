/-
 The machine computes these plain functions (written by a program of ours).
-/
import Derived.Test.YtadpbmfnnlkdlacGreatDoorFacts
import Derived.Test.YtadpbmfnnlkdlacGreatDoorDefs
import Derived.Test.YtadpbmfnnlkdlacGreatDoorPf3
import Derived.Test.YtadpbmfnnlkdlacGreatDoorShelf
open Go Go.Eng Go.Proofs
namespace Go.Proofs.YtadpbmfnnlkdlacGreatDoor.Law
set_option maxRecDepth 100000
set_option linter.unusedVariables false
set_option maxHeartbeats 1000000
theorem Ig {g:(List Receipt)} {i:Int} {r:(List (Pair×Int))} (t:tH g i=some r) :
  FnM Tryz.prog 48 [(vL Receipt.enc g),(vI i)] [] (.map (ax 0)) [some (bM (λx=>D.agg (Pair.enc x)) (D.int .i64) r)]:=by
 refine FnM.of_wH ⟨Tryz.prog,49,[],[]⟩ rfl Tryz.func48 rfl rfl (lb_ rfl) (by kernel_rfl) ?_
 unfold tH at t
 refine ai (aa .nilm (ah (ai (J2 0 (.inl rfl) wz (λf=>Lh (b':=some (bM (λx=>D.agg (Pair.enc x)) (D.int .i64) ([]:List (Pair×Int)))) 0 rfl rfl (aa (.map f) (ah (ak (ai (aa (vL Receipt.enc g) (bJ xG rfl wz (aa (vI 0) (ah ?_)))))))))))))
 obtain ⟨K,A,t⟩:=bind_some t
 obtain ⟨I,A⟩:=aS A
 refine bH (λ(e:(List (Pair×Int)))=>[(5,(.map f))]) (λ(e:(List (Pair×Int)))=>[(f,some (bM (λx=>D.agg (Pair.enc x)) (D.int .i64) e))]) (λ(j:Nat)=>(λ(e:(List (Pair×Int)))=>[(1,(vI i)),(5,(.map f)),(12,(vL Receipt.enc g)),(13,(vI (g.length:Int))),(14,(vI (j:Int)))])) (λk x s=>ow i k x s) K g ([]:List (Pair×Int)) A rfl (aG rfl) ?_ ?_
 ·rintro ⟨j,B,e⟩ ⟨n,l⟩
  dsimp only at n l
  cases B with
  | nil =>
   obtain rfl:=ae n
   refine ai (aa (vB (decide ((j:Int)<(g.length:Int)))) (ah ?_))
   refine ak (ay rfl (drop_nil l) (aX ?_))
   exact aU (e) rfl rfl (aG rfl)
  | cons c B =>
   obtain ⟨M,m,n⟩:=bind_some n
   refine ai (aa (vB (decide ((j:Int)<(g.length:Int)))) (ah ?_))
   refine ak (aA rfl (aZ l) (av ?_))
   unfold ow at m
   refine ak (aK (ai (dK Dw rfl rfl (bz l) rfl wz (bK rP AY rfl (.d (.agg (Receipt.enc c))) rfl wz (bZ 0 (.inl rfl) z48 rfl wz (λC=>gp 0 il ft 1 rP rfl rfl (Receipt.v c) rfl wz (ah (ai (aH EG rfl 0 rfl wz (aC 0 1 il ft sz9 ag9 rfl rfl (vS c.Player) rfl wz (aH Es rfl 1 rfl wz (aC 0 1 il ft sz9 ag9 rfl rfl (vS c.Alert) rfl wz (aJ (.d (.agg (Pair.enc (⟨c.Player,c.Alert⟩:Pair)))) wz (by kernel_rfl) (bZ 0 (.inl rfl) z100 rfl wz (λE=>gp 0 il ft 2 R3 rfl rfl [(vS c.Player),(vS c.Alert)] rfl wz (ah (ai (aa (.map f) (aC 0 2 il ft R3 ag100 rfl rfl (.d (.agg (Pair.enc (⟨c.Player,c.Alert⟩:Pair)))) rfl wz (Dc (eq:=(λ(a b:Pair)=>(eqS a.f_player b.f_player&&(eqS a.f_alert b.f_alert&&true)))) (kD:=(λx=>D.agg (Pair.enc x))) (vD:=(D.int .i64)) (es:=e) (k:=(⟨c.Player,c.Alert⟩:Pair)) (z:=0) 0 0 il ft (λ_ _=>rfl) mt94 (by kernel_rfl) (by kernel_rfl) rfl rfl rfl (.tup [(vI ((mGet (λ(a b:Pair)=>(eqS a.f_player b.f_player&&(eqS a.f_alert b.f_alert&&true))) e (⟨c.Player,c.Alert⟩:Pair)).getD 0)),(vB ((mGet (λ(a b:Pair)=>(eqS a.f_player b.f_player&&(eqS a.f_alert b.f_alert&&true))) e (⟨c.Player,c.Alert⟩:Pair)).isSome))]) rfl wz (aa (.tup [(vI ((mGet (λ(a b:Pair)=>(eqS a.f_player b.f_player&&(eqS a.f_alert b.f_alert&&true))) e (⟨c.Player,c.Alert⟩:Pair)).getD 0)),(vB ((mGet (λ(a b:Pair)=>(eqS a.f_player b.f_player&&(eqS a.f_alert b.f_alert&&true))) e (⟨c.Player,c.Alert⟩:Pair)).isSome))]) (aa (vI ((mGet (λ(a b:Pair)=>(eqS a.f_player b.f_player&&(eqS a.f_alert b.f_alert&&true))) e (⟨c.Player,c.Alert⟩:Pair)).getD 0)) (aa (vB ((mGet (λ(a b:Pair)=>(eqS a.f_player b.f_player&&(eqS a.f_alert b.f_alert&&true))) e (⟨c.Player,c.Alert⟩:Pair)).isSome)) ?_)))))))))))))))))))))))
   refine aa (vI ((mGet (λ(a b:Pair)=>(eqS a.f_player b.f_player&&(eqS a.f_alert b.f_alert&&true))) e (⟨c.Player,c.Alert⟩:Pair)).getD 0)) (aa (vB ((mGet (λ(a b:Pair)=>(eqS a.f_player b.f_player&&(eqS a.f_alert b.f_alert&&true))) e (⟨c.Player,c.Alert⟩:Pair)).isSome)) (ah (ak ?_)))
   obtain ⟨L,h,m⟩:=bind_some m
   refine aR [(1,(vI i)),(5,(.map f)),(7,(.ref C 0 0)),(8,(.ref E 0 0)),(12,(vL Receipt.enc g)),(13,(vI (g.length:Int))),(14,(vI (j:Int))),(42,(vB L))] [(f,some (bM (λx=>D.agg (Pair.enc x)) (D.int .i64) e)),(C,some (.cells 4 (Receipt.v c))),(E,some (.cells 2 [(vS c.Player),(vS c.Alert)]))] ?_ ?_
   ·refine au (aH BF rfl 2 rfl wz (aC 0 1 il ft sz3 ag3 rfl rfl (vI c.At) rfl wz (aa (vI i) (aa (vB (decide (c.At<=i))) ?_))))
    rcases aj h with⟨u,h⟩|⟨u,h⟩
    ·refine aF rfl u wz (aJ (vB ((mGet (λ(a b:Pair)=>(eqS a.f_player b.f_player&&(eqS a.f_alert b.f_alert&&true))) e (⟨c.Player,c.Alert⟩:Pair)).isSome)) wa rfl (aJ (vB (!((mGet (λ(a b:Pair)=>(eqS a.f_player b.f_player&&(eqS a.f_alert b.f_alert&&true))) e (⟨c.Player,c.Alert⟩:Pair)).isSome))) wa rfl ?_))
     rcases aj h with⟨w,h⟩|⟨w,h⟩
     ·refine aF rfl w wa (af (af (af (af (aJ (vB true) wa rfl (aa (vB true) (ah ?_)))))))
      obtain rfl:=ae h
      exact cu
     ·refine aF rfl w wa (aH BF rfl 2 rfl wa (aC 0 1 il ft sz3 ag3 rfl rfl (vI c.At) rfl wa (aJ (vI ((mGet (λ(a b:Pair)=>(eqS a.f_player b.f_player&&(eqS a.f_alert b.f_alert&&true))) e (⟨c.Player,c.Alert⟩:Pair)).getD 0)) wa rfl (aJ (vB (decide (c.At<((mGet (λ(a b:Pair)=>(eqS a.f_player b.f_player&&(eqS a.f_alert b.f_alert&&true))) e (⟨c.Player,c.Alert⟩:Pair)).getD 0)))) wa rfl (aJ (vB (decide (c.At<((mGet (λ(a b:Pair)=>(eqS a.f_player b.f_player&&(eqS a.f_alert b.f_alert&&true))) e (⟨c.Player,c.Alert⟩:Pair)).getD 0)))) wa rfl (aa (vB (decide (c.At<((mGet (λ(a b:Pair)=>(eqS a.f_player b.f_player&&(eqS a.f_alert b.f_alert&&true))) e (⟨c.Player,c.Alert⟩:Pair)).getD 0)))) (ah ?_)))))))
      obtain rfl:=ae h
      exact cu
    ·refine aF rfl u wz (af (af (af (dI (wn rfl rfl) (dI (wn rfl rfl) (dI (wn rfl rfl) (dI (wn rfl rfl) (af (aa (vB false) (ah ?_))))))))))
     obtain rfl:=ae h
     exact cu
   ·rintro ⟨⟩ _ G F p q
    refine aN _ p q ?_
    obtain ⟨H,o,m⟩:=bind_some m
    refine aR [(1,(vI i)),(5,(.map f)),(12,(vL Receipt.enc g)),(13,(vI (g.length:Int))),(14,(vI (j:Int)))] [(f,some (bM (λx=>D.agg (Pair.enc x)) (D.int .i64) H)),(C,some (.cells 4 (Receipt.v c))),(E,some (.cells 2 [(vS c.Player),(vS c.Alert)]))] ?_ ?_
    ·rcases aj o with⟨y,o⟩|⟨y,o⟩
     ·refine aA rfl y (au (aa (.map f) (aC 0 2 il ft R3 ag100 rfl rfl (.d (.agg (Pair.enc (⟨c.Player,c.Alert⟩:Pair)))) rfl wz (aH BF rfl 2 rfl wz (aC 0 1 il ft sz3 ag3 rfl rfl (vI c.At) rfl wz (Ir (eq:=(λ(a b:Pair)=>(eqS a.f_player b.f_player&&(eqS a.f_alert b.f_alert&&true)))) (kD:=(λx=>D.agg (Pair.enc x))) (vD:=(D.int .i64)) (es:=e) (k:=(⟨c.Player,c.Alert⟩:Pair)) (v:=c.At) 0 0 il ft (λ_ _=>rfl) mt94 (by kernel_rfl) rfl rfl rfl rfl wz (ah ?_)))))))
      obtain rfl:=ae o
      exact cu
     ·refine ay rfl y (av ?_)
      obtain rfl:=ae o
      exact cu
    ·rintro ⟨⟩ _ G F p q
     refine aN _ p q (au (dx (bf l I) wz rfl (aa (vI ((j+1:Nat):Int)) (ah ?_))))
     obtain rfl:=ae m
     exact aV (j+1,B,H) ⟨n,aP l⟩ (ls_ _) rfl (aG rfl)
 ·rintro e J G F p q
  subst J
  refine aN _ p q (ai (aa (.map f) (aa (.map f) (ah ?_))))
  obtain rfl:=ae t
  exact aB (Bf (.inr rfl) [(.map f)] _ [0] [f] ⟨rfl,trivial⟩ (.cons (Tp _) .nil) (by kernel_rfl) ⟨(by kernel_rfl),trivial⟩ (by decide) (by kernel_rfl))
theorem FK {b:Alert} {e:ByteArray} {c:Alert} {r:Bool} (f:mY b e c=some r) :
  FnM Tryz.prog 119 [(.d (.agg (Alert.enc b))),(.ref (ax 0) 0 0),(.ref (ax 1) 0 0)] [(.cells 1 [(vS e)]),(.cells 9 (Alert.v c))] (vB r) [some (.cells 1 [(vS e)]),some (.cells 9 (Alert.v c))]:=by
 refine FnM.of_wH ⟨Tryz.prog,22,[],[]⟩ rfl Tryz.func119 rfl rfl (lb_ rfl) (by kernel_rfl) ?_
 unfold mY at f
 refine ai (eT 0 (.inl rfl) (Alert.v b) rfl rfl wz (λn=>aa (vB false) (ah (ak ?_))))
 obtain ⟨j,a,f⟩:=bind_some f
 refine aR [(4,(vB j))] [((ax 0),some (.cells 1 [(vS e)])),((ax 1),some (.cells 9 (Alert.v c))),(n,some (.cells 9 (Alert.v b)))] ?_ ?_
 ·refine au (aH kZ rfl 0 rfl wz (aC 0 2 il ft sz9 ag9 rfl rfl (vS b.Id) rfl wz (aC 0 0 il ft sz9 ag9 rfl rfl (vS e) rfl wz (aa (vB (sEq b.Id e)) ?_))))
  rcases aj a with⟨g,a⟩|⟨g,a⟩
  ·refine aF rfl g wz (aH Ez rfl 1 rfl wa (aC 0 2 il ft sz9 ag9 rfl rfl (vS b.Sender) rfl wa (aH Ez rfl 1 rfl wa (aC 0 1 il ft sz9 ag9 rfl rfl (vS c.Sender) rfl wa (aJ (vB (sEq b.Sender c.Sender)) wa rfl (aa (vB (sEq b.Sender c.Sender)) ?_))))))
   rcases aj a with⟨h,a⟩|⟨h,a⟩
   ·refine aF rfl h wz (aC 0 2 il ft fJ jZ rfl rfl (.d (.agg (Alert.enc b))) rfl wa (aC 0 1 il ft fJ jZ rfl rfl (.d (.agg (Alert.enc c))) rfl wa ?_))
    obtain ⟨i,m,a⟩:=bind_some a
    refine aD (xS m) rfl hb35 rfl rfl rfl rfl wa (aJ (vB (decide (i<0))) wa rfl (aa (vB (decide (i<0))) (aa (vB (decide (i<0))) (ah ?_))))
    obtain rfl:=ae a
    exact cu
   ·refine aF rfl h wz (af (af (af (af (aa (vB false) (aa (vB false) (ah ?_)))))))
    obtain rfl:=ae a
    exact cu
  ·refine aF rfl g wz (af (af (af (af (af (aa (vB false) (aa (vB false) (af (af (af (af (aa (vB false) (aa (vB false) (ah ?_))))))))))))))
   obtain rfl:=ae a
   exact cu
 ·rintro ⟨⟩ _ p o k l
  refine aN _ k l ?_
  obtain rfl:=ae f
  exact aB (Bf (.inr rfl) [(vB j)] _ [0,1] [ax 0,ax 1] ⟨rfl,trivial⟩ (.cons (kX rfl rfl) (.nil)) (by kernel_rfl) ⟨(by kernel_rfl),⟨(by kernel_rfl),trivial⟩⟩ (by decide) (by kernel_rfl))
theorem nY {c:(List Alert)} {j:Alert->Option Bool} {r:Int} {gid:FuncId} {caps:List V} {Sin:List Box} (hfn:∀x0 r,j x0=some r->FnM Tryz.prog gid ([(.d (.agg (Alert.enc x0)))]++caps) Sin (vB r) (Sin.map some)) (hbF:aI Tryz.prog gid=true) (hcapF:caps.flatMap frz=[]/\caps.map co0=caps) (hokF:okL Sin.length caps=true) (hsF:∀b∈Sin,b.ok Sin.length=true) (hmF:∀b∈Sin,b.mut=true) (h:eP c j=some r) :
  FnM Tryz.prog 118 [(vL Alert.enc c),(.fn gid caps)] Sin (vI r) (Sin.map some):=by
 refine FnM.of_wH ⟨Tryz.prog,19,[],[]⟩ rfl Tryz.func118 rfl rfl (lb_ rfl) (by kernel_rfl) ?_
 unfold eP at h
 refine ai (aa (vI 0) (ah (ak (ai (aa (vL Alert.enc c) (bJ uS rfl wz (aa (vI 0) (ah ?_))))))))
 obtain ⟨v,m,h⟩:=bind_some h
 obtain ⟨o,m⟩:=aS m
 refine bH (λ(i:Unit)=>[]) (λ(i:Unit)=>(ru 0 Sin)) (λ(a:Nat)=>(λ(i:Unit)=>[(0,(vL Alert.enc c)),(1,(.fn gid caps)),(7,(vI (c.length:Int))),(8,(vI (a:Int)))])) (λk x s=>dU j k x s) v c () m rfl (xV _) ?_ ?_
 ·rintro ⟨a,n,i⟩ ⟨g,f⟩
  dsimp only at g f
  cases n with
  | nil =>
   obtain rfl:=ae g
   refine ai (aa (vB (decide ((a:Int)<(c.length:Int)))) (ah ?_))
   refine ak (ay rfl (drop_nil f) (aX ?_))
   exact aU (i) rfl rfl (xV _)
  | cons w n =>
   obtain ⟨z,e,g⟩:=bind_some g
   refine ai (aa (vB (decide ((a:Int)<(c.length:Int)))) (ah ?_))
   refine ak (aA rfl (aZ f) (av ?_))
   unfold dU at e
   refine ak (aK (ai (aa (vI (a:Int)) (aa (vI (a:Int)) (ah (ai (aa (.fn gid caps) (aa (vL Alert.enc c) (aa (vI (a:Int)) (dK mH rfl rfl (bz f) rfl wz (bK fJ jZ rfl (.d (.agg (Alert.enc w))) rfl wz ?_)))))))))))
   obtain ⟨A,u,e⟩:=bind_some e
   refine Kq (hfn _ _ u) rfl hbF rfl rfl hcapF hokF hsF hmF rfl wz rfl (ah ?_)
   rcases aj e with⟨l,e⟩|⟨l,e⟩
   ·refine aA rfl l (ai (aa (vI (a:Int)) (aa (vI (a:Int)) (ah ?_))))
    obtain rfl:=ae e
    obtain rfl:=ae g
    obtain rfl:=ae h
    exact aB (Tv hsF (.inr rfl) [(vI (a:Int))] ⟨rfl,trivial⟩ rfl rfl rfl)
   ·refine ay rfl l (av (au (dx (bf f o) wz rfl (aa (vI ((a+1:Nat):Int)) (ah ?_)))))
    obtain rfl:=ae e
    exact aV (a+1,n,()) ⟨g,aP f⟩ (ls_ _) rfl (xV _)
 ·rintro i p B y q t
  subst p
  refine aN _ q t (ai (aa (vI (-1)) (ah ?_)))
  obtain rfl:=ae h
  exact aB (Tv hsF (.inr rfl) [(vI (-1))] ⟨rfl,trivial⟩ rfl rfl rfl)
theorem I7 {e:(List Alert)} {a:Alert} {b:ByteArray} {r:Int} (c:rY e a b=some r) :
  FnM Tryz.prog 78 [(vL Alert.enc e),(.d (.agg (Alert.enc a))),(vS b)] [] (vI r) []:=by
 refine FnM.of_wH ⟨Tryz.prog,10,[],[]⟩ rfl Tryz.func78 rfl rfl (lb_ rfl) (by kernel_rfl) ?_
 unfold rY at c
 refine ai (eT 0 (.inl rfl) (Alert.v a) rfl rfl wz (λg=>eT 0 (.inl rfl) [(vS b)] rfl rfl wz (λh=>aa (vI 0) (ah (ai (aa (vL Alert.enc e) (aa (.fn 119 [(.ref h 0 0),(.ref g 0 0)]) ?_)))))))
 obtain ⟨f,i,c⟩:=bind_some c
 refine dG 0 [1,0] il ft (nY (gid:=119) (caps:=[.ref (ax 0) 0 0,.ref (ax 1) 0 0]) (Sin:=[(.cells 1 [(vS b)]),(.cells 9 (Alert.v a))]) (λ_ _ h_=>FK h_) hb119 ⟨rfl,rfl⟩ (by kernel_rfl) (SH (by kernel_rfl)) (PH (by kernel_rfl)) i) rfl hb118 rfl (by kernel_rfl) (by kernel_rfl) (by kernel_rfl) (by kernel_rfl) (by kernel_rfl) (by kernel_rfl) (by kernel_rfl) (by decide) (by kernel_rfl) wz (vI f) (by kernel_rfl) ([(g,some (.cells 9 (Alert.v a))),(h,some (.cells 1 [(vS b)]))]:Hp) (by kernel_rfl) (aa (vI f) (ah ?_))
 obtain rfl:=ae c
 exact aB (aM [(vI f)] ⟨rfl,trivial⟩)
theorem Bp {a:(List Alert)} {r:(List Int)} (y:su a=some r) :
  FnM Tryz.prog 49 [(vL Alert.enc a)] [] (vL eI r) []:=by
 refine FnM.of_wH ⟨Tryz.prog,55,[],[]⟩ rfl Tryz.func49 rfl rfl (lb_ rfl) (by kernel_rfl) ?_
 unfold su at y
 refine ai (aa .nil (ah (ai (aa .nil (ah (ak (ai (aa (vL Alert.enc a) (bJ uS rfl wz (aa (vI 0) (ah (jl (λÊ => ?_)))))))))))))
 obtain ⟨Ë,M,y⟩:=bind_some y
 obtain ⟨Å,M⟩:=aS M
 refine gq (σ:=(List Int)) (N:=Nm) (λp=>(λ(h:List Int) (b:Nm)=>([(0,(vL Alert.enc a)),(3,(gV b 1 h))]:SL_)) p.1 p.2) (λp=>(λ(h:List Int) (b:Nm)=>([(b,gB 1 eI h)]:Hp)) p.1 p.2) (λ(A:Nat)=>(λp=>(λ(h:List Int) (b:Nm)=>([(0,(vL Alert.enc a)),(3,(gV b 1 h)),(11,(vL Alert.enc a)),(12,(vI (a.length:Int))),(13,(vI (A:Int)))]:SL_)) p.1 p.2)) (λk x s=>qd k x s) Ë a (([]:List Int),Ê) M rfl (aG rfl) ?_ ?_
 ·rintro ⟨A,R,h,b⟩ ⟨B,w⟩
  dsimp only at B w
  cases R with
  | nil =>
   obtain rfl:=ae B
   refine ai (aa (vB (decide ((A:Int)<(a.length:Int)))) (ah ?_))
   refine ak (ay rfl (drop_nil w) (aX ?_))
   exact aU (h,b) rfl rfl (aG rfl)
  | cons J R =>
   obtain ⟨Z,G,B⟩:=bind_some B
   refine ai (aa (vB (decide ((A:Int)<(a.length:Int)))) (ah ?_))
   refine ak (aA rfl (aZ w) (av ?_))
   unfold qd at G
   refine ak (aK (ai (dK mH rfl rfl (bz w) rfl wz (bK fJ jZ rfl (.d (.agg (Alert.enc J))) rfl wz (bZ 0 (.inl rfl) z39 rfl wz (λÏ=>gp 0 il ft 1 fJ rfl rfl (Alert.v J) rfl wz (ah (au (aa (gV b 1 h) (aH DC rfl 5 rfl wz (aC 0 1 il ft sz3 ag3 rfl rfl (vI J.Until) rfl wz (dW (([J.Until]:List Int).map eI) nZ BI rfl rfl rfl rfl rfl wz ?_))))))))))))
   obtain ⟨Y,É,G⟩:=bind_some G
   refine lh 0 il ft (i:=0) Sr Sr sz3 z3 rfl (by decide) by3 (by decide) (λ_=>rfl) rfl rfl rfl É wz (λÂ=>aa (gV Â 1 Y) (ah (au (dx (bf w Å) wz rfl (aa (vI ((A+1:Nat):Int)) (ah ?_))))))
   obtain rfl:=ae G
   exact aV (A+1,R,Y,Â) ⟨B,aP w⟩ (ls_ _) rfl (aG rfl)
 ·rintro ⟨h,b⟩ F U K m n
  subst F
  refine aN _ m n (ak (ai (aa (vL Alert.enc a) (bJ uS rfl wz (aa (vI 0) (ah ?_))))))
  obtain ⟨Ì,O,y⟩:=bind_some y
  obtain ⟨Ã,O⟩:=aS O
  refine bH (λ(g:List Int)=>[(3,(gV b 1 g))]) (λ(g:List Int)=>[(b,gB 1 eI g)]) (λ(j:Nat)=>(λ(g:List Int)=>[(0,(vL Alert.enc a)),(3,(gV b 1 g)),(23,(vL Alert.enc a)),(24,(vI (a.length:Int))),(25,(vI (j:Int)))])) (λk x s=>qh a k x s) Ì a h O rfl (aG rfl) ?_ ?_
  ·rintro ⟨j,Q,g⟩ ⟨C,t⟩
   dsimp only at C t
   cases Q with
   | nil =>
    obtain rfl:=ae C
    refine ai (aa (vB (decide ((j:Int)<(a.length:Int)))) (ah ?_))
    refine ak (ay rfl (drop_nil t) (aX ?_))
    exact aU (g) rfl rfl (aG rfl)
   | cons c Q =>
    obtain ⟨Z,H,C⟩:=bind_some C
    refine ai (aa (vB (decide ((j:Int)<(a.length:Int)))) (ah ?_))
    refine ak (aA rfl (aZ t) (av ?_))
    unfold qh at H
    refine ak (aK (ai (dK mH rfl rfl (bz t) rfl wz (bK fJ jZ rfl (.d (.agg (Alert.enc c))) rfl wz (bZ 0 (.inl rfl) z39 rfl wz (λI=>gp 0 il ft 1 fJ rfl rfl (Alert.v c) rfl wz (ah (ai (aH qx rfl 3 rfl wz (aC 0 1 il ft zV Cy rfl rfl (vL eS c.Refs) rfl wz (bJ wY rfl wz (aa (vI 0) (ah ?_)))))))))))))
    obtain ⟨Í,P,H⟩:=bind_some H
    obtain ⟨Ä,P⟩:=aS P
    refine bH (λ(e:List Int)=>[(0,(vL Alert.enc a)),(3,(gV b 1 e)),(23,(vL Alert.enc a)),(24,(vI (a.length:Int))),(25,(vI (j:Int)))]) (λ(e:List Int)=>[(b,gB 1 eI e),(I,some (.cells 9 (Alert.v c)))]) (λ(o:Nat)=>(λ(e:List Int)=>[(0,(vL Alert.enc a)),(3,(gV b 1 e)),(7,(.ref I 0 0)),(23,(vL Alert.enc a)),(24,(vI (a.length:Int))),(25,(vI (j:Int))),(30,(vL eS c.Refs)),(31,(vI (c.Refs.length:Int))),(32,(vI (o:Int)))])) (λk x s=>nH a c k x s) Í c.Refs g P rfl (aG rfl) ?_ ?_
    ·rintro ⟨o,T,e⟩ ⟨E,u⟩
     dsimp only at E u
     cases T with
     | nil =>
      obtain rfl:=ae E
      refine ai (aa (vB (decide ((o:Int)<(c.Refs.length:Int)))) (ah ?_))
      refine ak (ay rfl (drop_nil u) (aX ?_))
      exact aU (e) rfl rfl (aG rfl)
     | cons X T =>
      obtain ⟨Z,z,E⟩:=bind_some E
      refine ai (aa (vB (decide ((o:Int)<(c.Refs.length:Int)))) (ah ?_))
      refine ak (aA rfl (aZ u) (av ?_))
      unfold nH at z
      refine ak (aK (ai (dK qo rfl rfl (bz u) rfl wz (bK sz9 ag9 rfl (vS X) rfl wz (aa (vS X) (ah (ai (aa (vL Alert.enc a) (aC 0 1 il ft fJ jZ rfl rfl (.d (.agg (Alert.enc c))) rfl wz (aa (vS X) ?_))))))))))
      obtain ⟨l,Æ,z⟩:=bind_some z
      refine aD (I7 Æ) rfl hb78 rfl rfl rfl rfl wz (aa (vI l) (ah (ai (aa (vI l) (aa (vB (decide (l>=0))) (ah ?_))))))
      obtain ⟨W,f,z⟩:=bind_some z
      refine aR [(0,(vL Alert.enc a)),(3,(gV b 1 W)),(7,(.ref I 0 0)),(23,(vL Alert.enc a)),(24,(vI (a.length:Int))),(25,(vI (j:Int))),(30,(vL eS c.Refs)),(31,(vI (c.Refs.length:Int))),(32,(vI (o:Int)))] [(b,gB 1 eI W),(I,some (.cells 9 (Alert.v c)))] ?_ ?_
      ·rcases aj f with⟨L,f⟩|⟨L,f⟩
       ·refine aA rfl L (bv (aa (gV b 1 e) (aa (vI l) (aa (gV b 1 e) (aa (vI l) ?_)))))
        obtain ⟨_,À,f⟩:=bind_some f
        refine xg nZ rfl rfl (gN À) (dP À) wz ?_
        obtain ⟨q,Ç,f⟩:=bind_some f
        refine jm 5 0 (.inr (by kernel_rfl)) (λ_ _ ag=>trivial) sz3 ag3 rfl rfl Ç (vI q) rfl wz (aH lg rfl 4 rfl wz (aC 7 1 (.inr (by kernel_rfl)) (λ_ _ ag=>⟨.inl ⟨rfl,rfl⟩,trivial⟩) sz3 ag3 rfl rfl (vI c.At) rfl wz (vG (vI (Al q c.At)) rfl (.inl rfl) wz ?_)))
        obtain ⟨_,Á,f⟩:=bind_some f
        refine xg nZ rfl rfl (gN Á) (dP Á) wz ?_
        obtain ⟨Î,È,f⟩:=bind_some f
        refine pR 10 (.inr (by kernel_rfl)) (λ_ _ ag=>⟨.inr (.inr (by kernel_rfl)),⟨.inr (.inr (by kernel_rfl)),trivial⟩⟩) 0 sz3 rfl rfl È (Al q c.At) rfl wz (bT (v':=(gV b 1 (e.set (0+(l).toNat) (Al q c.At)))) 3 rfl (fC (by simp)) (bT (v':=(gV b 1 (e.set (0+(l).toNat) (Al q c.At)))) 42 rfl (fC (by simp)) (bT (v':=(gV b 1 (e.set (0+(l).toNat) (Al q c.At)))) 44 rfl (fC (by simp)) (ah ?_))))
        obtain rfl:=ae f
        exact cu
       ·refine ay rfl L (av ?_)
        obtain rfl:=ae f
        exact cu
      ·rintro ⟨⟩ _ U K m n
       refine aN _ m n (au (dx (bf u Ä) wz rfl (aa (vI ((o+1:Nat):Int)) (ah ?_))))
       obtain rfl:=ae z
       exact aV (o+1,T,W) ⟨E,aP u⟩ (ls_ _) rfl (aG rfl)
    ·rintro e F U K m n
     subst F
     refine aN _ m n (au (dx (bf t Ã) wz rfl (aa (vI ((j+1:Nat):Int)) (ah ?_))))
     obtain rfl:=ae H
     exact aV (j+1,Q,e) ⟨C,aP t⟩ (ls_ _) rfl (aG rfl)
  ·rintro g F U K m n
   subst F
   refine aN _ m n (ai (aa (gV b 1 g) (aa (gV b 1 g) (ah (jP 0 rfl (fI 2 0 rfl rfl (fI 3 0 rfl rfl (fI 54 0 rfl rfl ?_))))))))
   obtain rfl:=ae y
   exact aB (aM [(vL eI g)] ⟨rfl,trivial⟩)
theorem BN {a:Rect} {b:Post} {r:Bool} (e:nA a b=some r) :
  FnM Tryz.prog 121 [(.d (.agg (Rect.enc a))),(.ref (ax 0) 0 0)] [(.cells 3 (Post.v b))] (vB r) [some (.cells 3 (Post.v b))]:=by
 refine FnM.of_wH ⟨Tryz.prog,36,[],[]⟩ rfl Tryz.func121 rfl rfl (lb_ rfl) (by kernel_rfl) ?_
 unfold nA at e
 refine ai (eT 0 (.inl rfl) (Rect.v a) rfl rfl wz (λl=>aa (vB false) (ah (ak ?_))))
 obtain ⟨i,c,e⟩:=bind_some e
 refine aR [(3,(vB i))] [((ax 0),some (.cells 3 (Post.v b))),(l,some (.cells 4 (Rect.v a)))] ?_ ?_
 ·refine au (aH BJ rfl 0 rfl wz (aC 0 1 il ft sz3 ag3 rfl rfl (vI a.X) rfl wz (aH NM rfl 1 rfl wz (aC 0 0 il ft sz3 ag3 rfl rfl (vI b.X) rfl wz (aa (vB (decide (a.X<=b.X))) ?_)))))
  rcases aj c with⟨f,c⟩|⟨f,c⟩
  ·refine aF rfl f wz (aH NM rfl 1 rfl wa (aC 0 0 il ft sz3 ag3 rfl rfl (vI b.X) rfl wa (aH BJ rfl 0 rfl wa (aC 0 1 il ft sz3 ag3 rfl rfl (vI a.X) rfl wa (aH F6 rfl 2 rfl wa (aC 0 1 il ft sz3 ag3 rfl rfl (vI a.W) rfl wa (aJ (vI (w64 (a.X+a.W))) wa rfl (aJ (vB (decide (b.X<(w64 (a.X+a.W))))) wa rfl (aa (vB (decide (b.X<(w64 (a.X+a.W))))) ?_)))))))))
   rcases aj c with⟨g,c⟩|⟨g,c⟩
   ·refine aF rfl g wz (aH yT rfl 1 rfl wa (aC 0 1 il ft sz3 ag3 rfl rfl (vI a.Y) rfl wa (aH Oo rfl 2 rfl wa (aC 0 0 il ft sz3 ag3 rfl rfl (vI b.Y) rfl wa (aJ (vB (decide (a.Y<=b.Y))) wa rfl (aa (vB (decide (a.Y<=b.Y))) ?_))))))
    rcases aj c with⟨h,c⟩|⟨h,c⟩
    ·refine aF rfl h wz (aH Oo rfl 2 rfl wa (aC 0 0 il ft sz3 ag3 rfl rfl (vI b.Y) rfl wa (aH yT rfl 1 rfl wa (aC 0 1 il ft sz3 ag3 rfl rfl (vI a.Y) rfl wa (aH DK rfl 3 rfl wa (aC 0 1 il ft sz3 ag3 rfl rfl (vI a.H) rfl wa (aJ (vI (w64 (a.Y+a.H))) wa rfl (aJ (vB (decide (b.Y<(w64 (a.Y+a.H))))) wa rfl (aa (vB (decide (b.Y<(w64 (a.Y+a.H))))) (aa (vB (decide (b.Y<(w64 (a.Y+a.H))))) (ah ?_)))))))))))
     obtain rfl:=ae c
     exact cu
    ·refine aF rfl h wz (af (af (af (af (af (af (af (af (aa (vB false) (aa (vB false) (ah ?_)))))))))))
     obtain rfl:=ae c
     exact cu
   ·refine aF rfl g wz (af (af (af (af (af (aa (vB false) (aa (vB false) (af (af (af (af (af (af (af (af (aa (vB false) (aa (vB false) (ah ?_))))))))))))))))))
    obtain rfl:=ae c
    exact cu
  ·refine aF rfl f wz (af (af (af (af (af (af (af (af (aa (vB false) (aa (vB false) (af (af (af (af (af (aa (vB false) (aa (vB false) (af (af (af (af (af (af ?_)))))))))))))))))))))))
   refine af (af (aa (vB false) (aa (vB false) (ah ?_))))
   obtain rfl:=ae c
   exact cu
 ·rintro ⟨⟩ _ n m j k
  refine aN _ j k ?_
  obtain rfl:=ae e
  exact aB (Bf (.inr rfl) [(vB i)] _ [0] [ax 0] ⟨rfl,trivial⟩ (.cons (kX rfl rfl) (.nil)) (by kernel_rfl) ⟨(by kernel_rfl),trivial⟩ (by decide) (by kernel_rfl))
theorem oQ {c:(List Rect)} {j:Rect->Option Bool} {r:Int} {gid:FuncId} {caps:List V} {Sin:List Box} (hfn:∀x0 r,j x0=some r->FnM Tryz.prog gid ([(.d (.agg (Rect.enc x0)))]++caps) Sin (vB r) (Sin.map some)) (hbF:aI Tryz.prog gid=true) (hcapF:caps.flatMap frz=[]/\caps.map co0=caps) (hokF:okL Sin.length caps=true) (hsF:∀b∈Sin,b.ok Sin.length=true) (hmF:∀b∈Sin,b.mut=true) (h:fD c j=some r) :
  FnM Tryz.prog 158 [(vL Rect.enc c),(.fn gid caps)] Sin (vI r) (Sin.map some):=by
 refine FnM.of_wH ⟨Tryz.prog,19,[],[]⟩ rfl Tryz.func158 rfl rfl (lb_ rfl) (by kernel_rfl) ?_
 unfold fD at h
 refine ai (aa (vI 0) (ah (ak (ai (aa (vL Rect.enc c) (bJ yP rfl wz (aa (vI 0) (ah ?_))))))))
 obtain ⟨v,m,h⟩:=bind_some h
 obtain ⟨o,m⟩:=aS m
 refine bH (λ(i:Unit)=>[]) (λ(i:Unit)=>(ru 0 Sin)) (λ(a:Nat)=>(λ(i:Unit)=>[(0,(vL Rect.enc c)),(1,(.fn gid caps)),(7,(vI (c.length:Int))),(8,(vI (a:Int)))])) (λk x s=>bN j k x s) v c () m rfl (xV _) ?_ ?_
 ·rintro ⟨a,n,i⟩ ⟨g,f⟩
  dsimp only at g f
  cases n with
  | nil =>
   obtain rfl:=ae g
   refine ai (aa (vB (decide ((a:Int)<(c.length:Int)))) (ah ?_))
   refine ak (ay rfl (drop_nil f) (aX ?_))
   exact aU (i) rfl rfl (xV _)
  | cons w n =>
   obtain ⟨z,e,g⟩:=bind_some g
   refine ai (aa (vB (decide ((a:Int)<(c.length:Int)))) (ah ?_))
   refine ak (aA rfl (aZ f) (av ?_))
   unfold bN at e
   refine ak (aK (ai (aa (vI (a:Int)) (aa (vI (a:Int)) (ah (ai (aa (.fn gid caps) (aa (vL Rect.enc c) (aa (vI (a:Int)) (dK BC rfl rfl (bz f) rfl wz (bK rV Ed rfl (.d (.agg (Rect.enc w))) rfl wz ?_)))))))))))
   obtain ⟨A,u,e⟩:=bind_some e
   refine Kq (hfn _ _ u) rfl hbF rfl rfl hcapF hokF hsF hmF rfl wz rfl (ah ?_)
   rcases aj e with⟨l,e⟩|⟨l,e⟩
   ·refine aA rfl l (ai (aa (vI (a:Int)) (aa (vI (a:Int)) (ah ?_))))
    obtain rfl:=ae e
    obtain rfl:=ae g
    obtain rfl:=ae h
    exact aB (Tv hsF (.inr rfl) [(vI (a:Int))] ⟨rfl,trivial⟩ rfl rfl rfl)
   ·refine ay rfl l (av (au (dx (bf f o) wz rfl (aa (vI ((a+1:Nat):Int)) (ah ?_)))))
    obtain rfl:=ae e
    exact aV (a+1,n,()) ⟨g,aP f⟩ (ls_ _) rfl (xV _)
 ·rintro i p B y q t
  subst p
  refine aN _ q t (ai (aa (vI (-1)) (ah ?_)))
  obtain rfl:=ae h
  exact aB (Tv hsF (.inr rfl) [(vI (-1))] ⟨rfl,trivial⟩ rfl rfl rfl)
theorem nM {e:(List Rect)} {f:Rect->Option Bool} {r:Bool} {gid:FuncId} {caps:List V} {Sin:List Box} (hfn:∀x0 r,f x0=some r->FnM Tryz.prog gid ([(.d (.agg (Rect.enc x0)))]++caps) Sin (vB r) (Sin.map some)) (hbF:aI Tryz.prog gid=true) (hcapF:caps.flatMap frz=[]/\caps.map co0=caps) (hokF:okL Sin.length caps=true) (hsF:∀b∈Sin,b.ok Sin.length=true) (hmF:∀b∈Sin,b.mut=true) (a:dz e f=some r) :
  FnM Tryz.prog 120 [(vL Rect.enc e),(.fn gid caps)] Sin (vB r) (Sin.map some):=by
 refine FnM.of_wH ⟨Tryz.prog,9,[],[]⟩ rfl Tryz.func120 rfl rfl (lb_ rfl) (by kernel_rfl) ?_
 unfold dz at a
 refine ai (aa (vB false) (ah (ai (aa (vL Rect.enc e) (aa (.fn gid caps) ?_)))))
 obtain ⟨c,g,a⟩:=bind_some a
 refine Kq (oQ (gid:=gid) (caps:=caps) (Sin:=Sin) hfn hbF hcapF hokF hsF hmF g) rfl hb158 rfl rfl ⟨rfl,rfl⟩ (by simp [okL,okV,hokF]) hsF hmF rfl wz rfl (aa (vB (decide (c>=0))) (aa (vB (decide (c>=0))) (ah ?_)))
 obtain rfl:=ae a
 exact aB (Tv hsF (.inr rfl) [(vB (decide (c>=0)))] ⟨rfl,trivial⟩ rfl rfl rfl)
theorem sH {a:Alert} {b:Post} {r:Bool} (c:kH a b=some r) :
  FnM Tryz.prog 79 [(.d (.agg (Alert.enc a))),(.d (.agg (Post.enc b)))] [] (vB r) []:=by
 refine FnM.of_wH ⟨Tryz.prog,9,[],[]⟩ rfl Tryz.func79 rfl rfl (lb_ rfl) (by kernel_rfl) ?_
 unfold kH at c
 refine ai (eT 0 (.inl rfl) (Alert.v a) rfl rfl wz (λh=>eT 0 (.inl rfl) (Post.v b) rfl rfl wz (λf=>aa (vB false) (ah (ai (aH ul rfl 7 rfl wz (aC 0 0 il ft CQ FE rfl rfl (vL Rect.enc a.Areas) rfl wz (aa (.fn 121 [(.ref f 0 0)]) ?_))))))))
 obtain ⟨e,g,c⟩:=bind_some c
 refine dG 0 [1] il ft (nM (gid:=121) (caps:=[.ref (ax 0) 0 0]) (Sin:=[(.cells 3 (Post.v b))]) (λ_ _ h_=>BN h_) hb121 ⟨rfl,rfl⟩ (by kernel_rfl) (SH (by kernel_rfl)) (PH (by kernel_rfl)) g) rfl hb120 rfl (by kernel_rfl) (by kernel_rfl) (by kernel_rfl) (by kernel_rfl) (by kernel_rfl) (by kernel_rfl) (by kernel_rfl) (by decide) (by kernel_rfl) wz (vB e) (by kernel_rfl) ([(h,some (.cells 9 (Alert.v a))),(f,some (.cells 3 (Post.v b)))]:Hp) (by kernel_rfl) (aa (vB e) (ah ?_))
 obtain rfl:=ae c
 exact aB (aM [(vB e)] ⟨rfl,trivial⟩)
theorem Fj {b:Alert} {e:Int} {f:Post} {c:Int} {r:Bool} (g:rD b e f c=some r) :
  FnM Tryz.prog 50 [(.d (.agg (Alert.enc b))),(vI e),(.d (.agg (Post.enc f))),(vI c)] [] (vB r) []:=by
 refine FnM.of_wH ⟨Tryz.prog,29,[],[]⟩ rfl Tryz.func50 rfl rfl (lb_ rfl) (by kernel_rfl) ?_
 unfold rD at g
 refine ai (eT 0 (.inl rfl) (Alert.v b) rfl rfl wz (λp=>eT 0 (.inl rfl) (Post.v f) rfl rfl wz (λq=>aa (vB false) (ah (ak ?_)))))
 obtain ⟨l,a,g⟩:=bind_some g
 refine aR [(8,(vB l))] [(p,some (.cells 9 (Alert.v b))),(q,some (.cells 3 (Post.v f)))] ?_ ?_
 ·refine au (aH xk rfl 2 rfl wz (aC 0 0 il ft sz3 ag3 rfl rfl (vI b.Kind) rfl wz (aa (vB (b.Kind != 3)) ?_)))
  rcases aj a with⟨j,a⟩|⟨j,a⟩
  ·refine aF rfl j wz (aH lg rfl 4 rfl wa (aC 0 0 il ft sz3 ag3 rfl rfl (vI b.At) rfl wa (aJ (vI c) wa rfl (aJ (vB (decide (b.At<=c))) wa rfl (aa (vB (decide (b.At<=c))) ?_)))))
   rcases aj a with⟨h,a⟩|⟨h,a⟩
   ·refine aF rfl h wz (aH lg rfl 4 rfl wa (aC 0 0 il ft sz3 ag3 rfl rfl (vI b.At) rfl wa (aJ (vI e) wa rfl (aJ (vB (decide (b.At<e))) wa rfl (aa (vB (decide (b.At<e))) ?_)))))
    rcases aj a with⟨i,a⟩|⟨i,a⟩
    ·refine aF rfl i wz (aC 0 0 il ft fJ jZ rfl rfl (.d (.agg (Alert.enc b))) rfl wa (aC 0 1 il ft BZ Ii rfl rfl (.d (.agg (Post.enc f))) rfl wa ?_))
     obtain ⟨k,o,a⟩:=bind_some a
     refine aD (sH o) rfl hb79 rfl rfl rfl rfl wa (aa (vB k) (aa (vB k) (ah ?_)))
     obtain rfl:=ae a
     exact cu
    ·refine aF rfl i wz (af (af (af (aa (vB false) (aa (vB false) (ah ?_))))))
     obtain rfl:=ae a
     exact cu
   ·refine aF rfl h wz (af (af (af (af (aa (vB false) (aa (vB false) (af (af (af (aa (vB false) (aa (vB false) (ah ?_))))))))))))
    obtain rfl:=ae a
    exact cu
  ·refine aF rfl j wz (af (af (af (af (aa (vB false) (aa (vB false) (af (af (af (af (aa (vB false) (aa (vB false) (af (af (af (aa (vB false) (aa (vB false) (ah ?_))))))))))))))))))
   obtain rfl:=ae a
   exact cu
 ·rintro ⟨⟩ _ t s m n
  refine aN _ m n ?_
  obtain rfl:=ae g
  exact aB (aM [(vB l)] ⟨rfl,trivial⟩)
section
variable [dM:DM]
theorem Eh {b:Debt} {c:Debt} {r:Int} (a:nI b c=some r) :
  FnM Tryz.prog 52 [(.d (.agg (Debt.enc b))),(.d (.agg (Debt.enc c)))] [] (vI r) []:=by
 refine FnM.of_wH ⟨Tryz.prog,17,[],[]⟩ rfl Tryz.func52 rfl rfl (lb_ rfl) (by kernel_rfl) ?_
 unfold nI at a
 refine ai (eT 0 (.inl rfl) (Debt.v b) rfl rfl wz (λk=>eT 0 (.inl rfl) (Debt.v c) rfl rfl wz (λl=>aa (vI 0) (ah (ak (bv (aH Q4 rfl 0 rfl wz (aC 1 0 (.inr (by kernel_rfl)) (λ_ _ ag=>trivial) sz9 ag9 rfl rfl (vS b.Player) rfl wz (aH Q4 rfl 0 rfl wz (aC 3 1 (.inr (by kernel_rfl)) (λ_ _ ag=>⟨.inl ⟨rfl,rfl⟩,trivial⟩) sz9 ag9 rfl rfl (vS c.Player) rfl wz ?_))))))))))
 obtain ⟨i,g,a⟩:=bind_some a
 refine aD (gL g) rfl LJ rfl rfl rfl rfl wz (aH Su rfl 1 rfl wz (aC 6 0 (.inr (by kernel_rfl)) (λ_ _ ag=>⟨.inl ⟨rfl,rfl⟩,⟨.inl ⟨rfl,rfl⟩,trivial⟩⟩) sz9 ag9 rfl rfl (vS b.Alert) rfl wz (aH Su rfl 1 rfl wz (aC 8 1 (.inr (by kernel_rfl)) (λ_ _ ag=>⟨.inl ⟨rfl,rfl⟩,⟨.inl ⟨rfl,rfl⟩,⟨.inl ⟨rfl,rfl⟩,trivial⟩⟩⟩) sz9 ag9 rfl rfl (vS c.Alert) rfl wz ?_))))
 obtain ⟨j,h,a⟩:=bind_some a
 refine aD (gL h) rfl LJ rfl rfl rfl rfl wz (dW (([i,j]:List Int).map eI) nZ BI rfl rfl rfl rfl rfl wz ?_)
 obtain ⟨e,f,a⟩:=bind_some a
 refine aD (lV f) rfl Np rfl rfl rfl rfl wz (aa (vI e) (ah ?_))
 obtain rfl:=ae a
 exact aB (aM [(vI e)] ⟨rfl,trivial⟩)
end
theorem rM {x r:(List Debt)} (c:fM x=some r) :
  FnM Tryz.prog 51 [(dV (ax 0) 4 x),(.fn 52 [])] (([]:List Box)++gI 4 Debt.enc x) (.tup []) (([]:List Box).map some++gT x (gB 4 Debt.enc r)) :=
 JA (dp:=1) (λ_=>rfl) (E:=Debt.enc) (F:=λa b=>nI a b) (λ_=>rfl) (λa b r h=>Eh (dM:=dmT) h) hb52 (λβ _ enc hk h1 cf hO g cb blk off cap d w eg hcmp hH hblk hsz=>Tryz.slices_SortFunc_eq_f51 4 Tryz.isAgg54 Tryz.sizeOf54 enc hk h1 cf hO g cb blk off cap d w eg hcmp hH hblk hsz) (λp cap fv w=>Tryz.slices_SortFunc_none_f51 (α:=Nat) p cap fv w) c
theorem wI {c:(List Debt)} {r:(List Debt)} (h:kG c=some r) :
  FnM Tryz.prog 14 [(dV (ax 0) 4 c)] (([]:List Box)++gI 4 Debt.enc c) (.tup []) (([]:List Box).map some++gT c (gB 4 Debt.enc r)):=by
 refine FnM.of_wHv ⟨Tryz.prog,14,[],[]⟩ rfl Tryz.func14 rfl rfl (lb_ rfl) (by kernel_rfl) ?_
 unfold kG at h
 refine ai (bZ 0 (.inl rfl) z54 rfl wz (λl=>ah (ai (aa (dV (ax 0) 4 c) (wZ un49 rfl wz (aa (vI 0) (ah ?_)))))))
 obtain ⟨u,i,h⟩:=bind_some h
 obtain ⟨n,i⟩:=aS i
 refine bH (λ(a:List Debt)=>[]) (λ(a:List Debt)=>[((ax 0),gB 4 Debt.enc a),(l,some (.cells 4 [(vS (⟨#[]⟩:ByteArray)),(vS (⟨#[]⟩:ByteArray)),(vI 0),(vI 0)]))]) (λ(b:Nat)=>(λ(a:List Debt)=>[(0,(dV (ax 0) 4 a)),(2,(.ref l 0 0)),(5,(vI (c.length:Int))),(6,(vI (b:Int)))])) (λk x s=>jo k x s) u (List.range ((c.length:Int)).toNat) c i rfl (aG rfl) ?_ ?_
 ·rintro ⟨b,j,a⟩ ⟨g,f⟩
  dsimp only at g f
  cases j with
  | nil =>
   obtain rfl:=ae g
   refine ai (aa (vB (decide ((b:Int)<(c.length:Int)))) (ah ?_))
   refine ak (ay rfl (mg f) (aX ?_))
   exact aU (a) rfl rfl (aG rfl)
  | cons B j =>
   obtain ⟨w,e,g⟩:=bind_some g
   refine ai (aa (vB (decide ((b:Int)<(c.length:Int)))) (ah ?_))
   refine ak (aA rfl (kR f) (av ?_))
   unfold jo at e
   refine ak (aK (ai (aa (vI (b:Int)) (aa (vI (b:Int)) (ah (au (aa (dV (ax 0) 4 a) (aa (vI (b:Int)) (aC 0 1 il ft sz54 ag54 rfl rfl (.d (.agg (Debt.enc (⟨(⟨#[]⟩:ByteArray),(⟨#[]⟩:ByteArray),0,0⟩:Debt)))) rfl wz ?_)))))))))
   obtain ⟨_,m,e⟩:=bind_some e
   refine iZ es49 rfl rfl (gN m) (dP m) wz ?_
   obtain ⟨y,t,e⟩:=bind_some e
   refine pR 0 il ft 0 sz54 rfl rfl t (⟨(⟨#[]⟩:ByteArray),(⟨#[]⟩:ByteArray),0,0⟩:Debt) rfl wz (bT (v':=(dV (ax 0) 4 (a.set (0+((b:Int)).toNat) (⟨(⟨#[]⟩:ByteArray),(⟨#[]⟩:ByteArray),0,0⟩:Debt)))) 0 rfl (bP (by simp)) (bT (v':=(dV (ax 0) 4 (a.set (0+((b:Int)).toNat) (⟨(⟨#[]⟩:ByteArray),(⟨#[]⟩:ByteArray),0,0⟩:Debt)))) 9 rfl (bP (by simp)) (ah (au (dx (ma f n) wz rfl (aa (vI ((b+1:Nat):Int)) (ah ?_)))))))
   obtain rfl:=ae e
   exact aV (b+1,j,(a.set (0+((b:Int)).toNat) (⟨(⟨#[]⟩:ByteArray),(⟨#[]⟩:ByteArray),0,0⟩:Debt))) ⟨g,aP f⟩ (ls_ _) rfl (aG rfl)
 ·rintro a p A v z q
  subst p
  show pI _ _ _ _ _ _ _ _
  obtain rfl:=ae h
  exact nV (H0:=([((ax 0),gB 4 Debt.enc a),(l,some (.cells 4 [(vS (⟨#[]⟩:ByteArray)),(vS (⟨#[]⟩:ByteArray)),(vI 0),(vI 0)]))]:Hp)) (sl':=envS []) q (uY (bs:=([]:List Box)) (os:=([]:List Box)) (xs:=c) (o:=gB 4 Debt.enc a) (.inl rfl) [] trivial rfl rfl rfl rfl rfl (by kernel_rfl) jN rfl)
theorem FJ {j:(List Alert)} {l:(List Post)} {R:(List Receipt)} {f:Int} {m:Int} {r:(List Debt)×Int} (h:uf j l R f m=some r) :
  FnM Tryz.prog 13 [(vL Alert.enc j),(vL Post.enc l),(vL Receipt.enc R),(vI f),(vI m)] [] (wL [.int .i64 r.2] (gV (ax 0) 4 r.1)) (([]:List Box).map some++gO 4 Debt.enc r.1):=by
 refine FnM.of_wH ⟨Tryz.prog,122,[],[]⟩ rfl Tryz.func13 rfl rfl (lb_ rfl) (by kernel_rfl) ?_
 unfold uf at h
 refine ai (aa .nil (aa (vI 0) (ah (ak (ai (aa (vL Alert.enc j) (aa (vL Post.enc l) (aa (vL Receipt.enc R) ?_))))))))
 obtain ⟨M,Ü,h⟩:=bind_some h
 refine aD (Cu Ü) rfl hb45 rfl rfl rfl rfl wz (aa (vI M) (ah (ai (aa (vI M) (aa (vB (M != 0)) (ah ?_))))))
 rcases aj h with⟨Æ,h⟩|⟨Æ,h⟩
 ·refine aA rfl Æ (ai (aa (vI M) (aa .nil (aa (vI M) (ah (jl (λê => ?_)))))))
  obtain rfl:=ae h
  exact aB (Bo (outs:=([]:List Box)) [.int .i64 M] (.inr rfl) 0 rfl ⟨rfl,trivial⟩ rfl rfl (by kernel_rfl) (by kernel_rfl))
 ·refine ay rfl Æ (av (ak (ak ?_)))
  obtain ⟨æ,F,h⟩:=bind_some h
  refine aR [(0,(vL Alert.enc j)),(1,(vL Post.enc l)),(2,(vL Receipt.enc R)),(3,(vI f)),(4,(vI m)),(36,(vB æ))] [] ?_ ?_
  ·refine au (aa (vI f) ?_)
   obtain ⟨ë,Ö,F⟩:=bind_some F
   refine aD (bI Ö) rfl uO rfl rfl rfl rfl wz ?_
   rcases aj F with⟨Z,F⟩|⟨Z,F⟩
   ·refine aF rfl Z wz (af (af (af (aa (vB true) (ah ?_)))))
    obtain rfl:=ae F
    exact cu
   ·refine aF rfl Z wz (aJ (vI m) wa rfl ?_)
    obtain ⟨Ñ,Ø,F⟩:=bind_some F
    refine aD (gM Ø) rfl IV rfl rfl rfl rfl wa (aJ (vB (!Ñ)) wa rfl (aa (vB (!Ñ)) (ah ?_)))
    obtain rfl:=ae F
    exact cu
  ·rintro ⟨⟩ _ Y U G H
   refine aN _ G H ?_
   rcases aj h with⟨À,h⟩|⟨À,h⟩
   ·refine aA rfl À (ai (aa .nil (aa (vI 1) (ah (jl (λé => ?_))))))
    obtain rfl:=ae h
    exact aB (Bo (outs:=([]:List Box)) [.int .i64 1] (.inr rfl) 0 rfl ⟨rfl,trivial⟩ rfl rfl (by kernel_rfl) (by kernel_rfl))
   ·refine ay rfl À (av (ai (aa (vL Receipt.enc R) (aa (vI m) ?_))))
    obtain ⟨g,Ù,h⟩:=bind_some h
    refine h_calln [] 1 (Ig Ù) rfl hb48 rfl (by kernel_rfl) (by kernel_rfl) (by kernel_rfl) (by kernel_rfl) (by kernel_rfl) (by kernel_rfl) (by kernel_rfl) (by decide) (by kernel_rfl) (by kernel_rfl) wz (λn=>(.map (n 0))) (λ_=>by kernel_rfl) (λn=>([((n 0),some (bM (λx=>D.agg (Pair.enc x)) (D.int .i64) g))]:Hp)) (λ_=>by kernel_rfl) ?_
    intro n
    refine aa (.map (n 0)) (ah (ai (aa (vL Alert.enc j) ?_)))
    obtain ⟨C,Ú,h⟩:=bind_some h
    refine aD (Bp Ú) rfl hb49 rfl rfl rfl rfl wz (aa (vL eI C) (ah (ai (aa .nil (ah (ak (ai (aa (vL Post.enc l) (bJ Nw rfl wz (aa (vI 0) (ah (jl (λâ => ?_)))))))))))))
    obtain ⟨ã,Ç,h⟩:=bind_some h
    obtain ⟨Õ,Ç⟩:=aS Ç
    refine gq (σ:=(List Debt)) (N:=Nm) (λp=>(λ(E:List Debt) (q:Nm)=>([(15,(gV q 4 E))]:SL_)) p.1 p.2) (λp=>(λ(E:List Debt) (q:Nm)=>([((n 0),some (bM (λx=>D.agg (Pair.enc x)) (D.int .i64) g)),(q,gB 4 Debt.enc E)]:Hp)) p.1 p.2) (λ(B:Nat)=>(λp=>(λ(E:List Debt) (q:Nm)=>([(0,(vL Alert.enc j)),(3,(vI f)),(4,(vI m)),(13,(.map (n 0))),(14,(vL eI C)),(15,(gV q 4 E)),(42,(vL Post.enc l)),(43,(vI (l.length:Int))),(44,(vI (B:Int)))]:SL_)) p.1 p.2)) (λk x s=>qX j C m f g k x s) ã l (([]:List Debt),â) Ç rfl (aG rfl) ?_ ?_
    ·rintro ⟨B,Ê,E,q⟩ ⟨O,J⟩
     dsimp only at O J
     cases Ê with
     | nil =>
      obtain rfl:=ae O
      refine ai (aa (vB (decide ((B:Int)<(l.length:Int)))) (ah ?_))
      refine ak (ay rfl (drop_nil J) (aX ?_))
      exact aU (E,q) rfl rfl (aG rfl)
     | cons e Ê =>
      obtain ⟨Ô,W,O⟩:=bind_some O
      refine ai (aa (vB (decide ((B:Int)<(l.length:Int)))) (ah ?_))
      refine ak (aA rfl (aZ J) (av ?_))
      unfold qX at W
      refine ak (aK (ai (dK MU rfl rfl (bz J) rfl wz (bK BZ Ii rfl (.d (.agg (Post.enc e))) rfl wz (bZ 0 (.inl rfl) z65 rfl wz (λL=>gp 0 il ft 2 BZ rfl rfl (Post.v e) rfl wz (ah (ai (aa (vL Alert.enc j) (bJ uS rfl wz (aa (vI 0) (ah ?_))))))))))))
      obtain ⟨ä,È,W⟩:=bind_some W
      obtain ⟨Î,È⟩:=aS È
      refine gq (σ:=(List Debt)) (N:=Nm) (λp=>(λ(w:List Debt) (t:Nm)=>([(0,(vL Alert.enc j)),(3,(vI f)),(4,(vI m)),(13,(.map (n 0))),(14,(vL eI C)),(15,(gV t 4 w)),(42,(vL Post.enc l)),(43,(vI (l.length:Int))),(44,(vI (B:Int)))]:SL_)) p.1 p.2) (λp=>(λ(w:List Debt) (t:Nm)=>([((n 0),some (bM (λx=>D.agg (Pair.enc x)) (D.int .i64) g)),(t,gB 4 Debt.enc w),(L,some (.cells 3 (Post.v e)))]:Hp)) p.1 p.2) (λ(u:Nat)=>(λp=>(λ(w:List Debt) (t:Nm)=>([(0,(vL Alert.enc j)),(3,(vI f)),(4,(vI m)),(13,(.map (n 0))),(14,(vL eI C)),(15,(gV t 4 w)),(17,(.ref L 0 0)),(42,(vL Post.enc l)),(43,(vI (l.length:Int))),(44,(vI (B:Int))),(48,(vL Alert.enc j)),(49,(vI (j.length:Int))),(50,(vI (u:Int)))]:SL_)) p.1 p.2)) (λk x s=>mq C e m f g k x s) ä j (E,q) È rfl (aG rfl) ?_ ?_
      ·rintro ⟨u,X,w,t⟩ ⟨K,I⟩
       dsimp only at K I
       cases X with
       | nil =>
        obtain rfl:=ae K
        refine ai (aa (vB (decide ((u:Int)<(j.length:Int)))) (ah ?_))
        refine ak (ay rfl (drop_nil I) (aX ?_))
        exact aU (w,t) rfl rfl (aG rfl)
       | cons c X =>
        obtain ⟨Ô,A,K⟩:=bind_some K
        refine ai (aa (vB (decide ((u:Int)<(j.length:Int)))) (ah ?_))
        refine ak (aA rfl (aZ I) (av ?_))
        unfold mq at A
        refine ak (aK (ai (aa (vI (u:Int)) (dK mH rfl rfl (bz I) rfl wz (bK fJ jZ rfl (.d (.agg (Alert.enc c))) rfl wz (bZ 0 (.inl rfl) z39 rfl wz (λË=>aa (vI (u:Int)) (gp 0 il ft 3 fJ rfl rfl (Alert.v c) rfl wz (ah (ai (aH lg rfl 4 rfl wz (aC 0 3 il ft sz3 ag3 rfl rfl (vI c.At) rfl wz (aa (vI f) (aa (vI (w64 (c.At+f))) (aa (vI (w64 (c.At+f))) (ah (ak (ak ?_))))))))))))))))))
        obtain ⟨ç,o,A⟩:=bind_some A
        refine aR [(0,(vL Alert.enc j)),(3,(vI f)),(4,(vI m)),(13,(.map (n 0))),(14,(vL eI C)),(15,(gV t 4 w)),(17,(.ref L 0 0)),(19,(.ref Ë 0 0)),(20,(vI (w64 (c.At+f)))),(42,(vL Post.enc l)),(43,(vI (l.length:Int))),(44,(vI (B:Int))),(48,(vL Alert.enc j)),(49,(vI (j.length:Int))),(50,(vI (u:Int))),(80,(vB ç))] [((n 0),some (bM (λx=>D.agg (Pair.enc x)) (D.int .i64) g)),(t,gB 4 Debt.enc w),(L,some (.cells 3 (Post.v e))),(Ë,some (.cells 9 (Alert.v c)))] ?_ ?_
        ·refine bv (aC 0 3 (.inr (by kernel_rfl)) (λ_ _ ag=>trivial) fJ jZ rfl rfl (.d (.agg (Alert.enc c))) rfl wz (aa (vL eI C) (aa (vI (u:Int)) ?_)))
         obtain ⟨è,Þ,o⟩:=bind_some o
         refine dK nZ rfl rfl Þ rfl wz (bK sz3 ag3 rfl (vI è) rfl wz (aC 5 2 (.inr (by kernel_rfl)) (λ_ _ ag=>⟨.inl ⟨rfl,rfl⟩,trivial⟩) BZ Ii rfl rfl (.d (.agg (Post.enc e))) rfl wz (aa (vI m) ?_)))
         obtain ⟨å,Û,o⟩:=bind_some o
         refine aD (Fj Û) rfl hb50 rfl rfl rfl rfl wz (aa (vB (!å)) ?_)
         rcases aj o with⟨Á,o⟩|⟨Á,o⟩
         ·refine aF rfl Á wz (af (af (af (aa (vB true) (aa (vB true) (af (af (af (af (af (af (aa (vB true) (ah ?_)))))))))))))
          obtain rfl:=ae o
          exact cu
         ·refine aF rfl Á wz (aJ (vI (w64 (c.At+f))) wa rfl (aJ (vI m) wa rfl (aJ (vB (decide ((w64 (c.At+f))>=m))) wa rfl (aa (vB (decide ((w64 (c.At+f))>=m))) ?_))))
          rcases aj o with⟨Â,o⟩|⟨Â,o⟩
          ·refine aF rfl Â wz (af (af (af (af (af (af (aa (vB true) (ah ?_))))))))
           obtain rfl:=ae o
           exact cu
          ·refine aF rfl Â wz (aJ (vL eI C) wa rfl (aJ (vI (u:Int)) wa rfl ?_))
           obtain ⟨Í,ß,o⟩:=bind_some o
           refine dK nZ rfl rfl ß rfl wa (bK sz3 ag3 rfl (vI Í) rfl wa (aJ (vI (w64 (c.At+f))) wa rfl (aJ (vB (decide (Í<(w64 (c.At+f))))) wa rfl (aa (vB (decide (Í<(w64 (c.At+f))))) (ah ?_)))))
           obtain rfl:=ae o
           exact cu
        ·rintro ⟨⟩ _ Y U G H
         refine aN _ G H ?_
         rcases aj A with⟨Ã,A⟩|⟨Ã,A⟩
         ·refine aA rfl Ã (aX (au (dx (bf I Î) wz rfl (aa (vI ((u+1:Nat):Int)) (ah ?_)))))
          obtain rfl:=ae A
          exact aV (u+1,X,w,t) ⟨K,aP I⟩ (ls_ _) rfl (aG rfl)
         ·refine ay rfl Ã (av (ai (aa (.map (n 0)) (aH Cj rfl 0 rfl wz (aC 0 2 il ft sz9 ag9 rfl rfl (vS e.Player) rfl wz (aH kZ rfl 0 rfl wz (aC 0 3 il ft sz9 ag9 rfl rfl (vS c.Id) rfl wz (aJ (.d (.agg (Pair.enc (⟨e.Player,c.Id⟩:Pair)))) wz (by kernel_rfl) (Dc (eq:=(λ(a b:Pair)=>(eqS a.f_player b.f_player&&(eqS a.f_alert b.f_alert&&true)))) (kD:=(λx=>D.agg (Pair.enc x))) (vD:=(D.int .i64)) (es:=g) (k:=(⟨e.Player,c.Id⟩:Pair)) (z:=0) 0 0 il ft (λ_ _=>rfl) mt94 (by kernel_rfl) (by kernel_rfl) rfl rfl rfl (.tup [(vI ((mGet (λ(a b:Pair)=>(eqS a.f_player b.f_player&&(eqS a.f_alert b.f_alert&&true))) g (⟨e.Player,c.Id⟩:Pair)).getD 0)),(vB ((mGet (λ(a b:Pair)=>(eqS a.f_player b.f_player&&(eqS a.f_alert b.f_alert&&true))) g (⟨e.Player,c.Id⟩:Pair)).isSome))]) rfl wz (aa (.tup [(vI ((mGet (λ(a b:Pair)=>(eqS a.f_player b.f_player&&(eqS a.f_alert b.f_alert&&true))) g (⟨e.Player,c.Id⟩:Pair)).getD 0)),(vB ((mGet (λ(a b:Pair)=>(eqS a.f_player b.f_player&&(eqS a.f_alert b.f_alert&&true))) g (⟨e.Player,c.Id⟩:Pair)).isSome))]) (aa (vI ((mGet (λ(a b:Pair)=>(eqS a.f_player b.f_player&&(eqS a.f_alert b.f_alert&&true))) g (⟨e.Player,c.Id⟩:Pair)).getD 0)) (aa (vB ((mGet (λ(a b:Pair)=>(eqS a.f_player b.f_player&&(eqS a.f_alert b.f_alert&&true))) g (⟨e.Player,c.Id⟩:Pair)).isSome)) (aa (vI ((mGet (λ(a b:Pair)=>(eqS a.f_player b.f_player&&(eqS a.f_alert b.f_alert&&true))) g (⟨e.Player,c.Id⟩:Pair)).getD 0)) (aa (vB ((mGet (λ(a b:Pair)=>(eqS a.f_player b.f_player&&(eqS a.f_alert b.f_alert&&true))) g (⟨e.Player,c.Id⟩:Pair)).isSome)) (ah (aK (ai (aa (vB ((mGet (λ(a b:Pair)=>(eqS a.f_player b.f_player&&(eqS a.f_alert b.f_alert&&true))) g (⟨e.Player,c.Id⟩:Pair)).isSome)) (aa (vB (!((mGet (λ(a b:Pair)=>(eqS a.f_player b.f_player&&(eqS a.f_alert b.f_alert&&true))) g (⟨e.Player,c.Id⟩:Pair)).isSome))) (aa (vB (!((mGet (λ(a b:Pair)=>(eqS a.f_player b.f_player&&(eqS a.f_alert b.f_alert&&true))) g (⟨e.Player,c.Id⟩:Pair)).isSome))) (ah ?_)))))))))))))))))))))
          obtain ⟨Ì,y,A⟩:=bind_some A
          refine kT (β:=Nm) (λ(Q:Nm)=>([(0,(vL Alert.enc j)),(3,(vI f)),(4,(vI m)),(13,(.map (n 0))),(14,(vL eI C)),(15,(gV Q 4 Ì)),(17,(.ref L 0 0)),(42,(vL Post.enc l)),(43,(vI (l.length:Int))),(44,(vI (B:Int))),(48,(vL Alert.enc j)),(49,(vI (j.length:Int))),(50,(vI (u:Int)))]:SL_)) (λ(Q:Nm)=>([((n 0),some (bM (λx=>D.agg (Pair.enc x)) (D.int .i64) g)),(Q,gB 4 Debt.enc Ì),(L,some (.cells 3 (Post.v e))),(Ë,some (.cells 9 (Alert.v c)))]:Hp)) (λ_=>True) ?_ ?_
          ·rcases aj y with⟨Ä,y⟩|⟨Ä,y⟩
           ·refine aA rfl Ä (au (aa (gV t 4 w) (aH Cj rfl 0 rfl wz (aC 0 2 il ft sz9 ag9 rfl rfl (vS e.Player) rfl wz (aH kZ rfl 0 rfl wz (aC 0 3 il ft sz9 ag9 rfl rfl (vS c.Id) rfl wz (aa (vI (w64 (c.At+f))) (aJ (.d (.agg (Debt.enc (⟨e.Player,c.Id,(w64 (c.At+f)),(-1)⟩:Debt)))) wz (by kernel_rfl) (dW (([(⟨e.Player,c.Id,(w64 (c.At+f)),(-1)⟩:Debt)]:List Debt).map Debt.enc) es49 ez49 rfl rfl rfl rfl rfl wz ?_)))))))))
            obtain ⟨Ò,à,y⟩:=bind_some y
            refine lh 0 il ft (i:=1) el49 el49 sz54 z54 rfl (by decide) by54 (by decide) (λ_=>rfl) rfl rfl rfl à wz (λÏ=>aa (gV Ï 4 Ò) (ah ?_))
            obtain rfl:=ae y
            exact aU Ï trivial rfl (aG rfl)
           ·refine ay rfl Ä (ai (aa (vI ((mGet (λ(a b:Pair)=>(eqS a.f_player b.f_player&&(eqS a.f_alert b.f_alert&&true))) g (⟨e.Player,c.Id⟩:Pair)).getD 0)) (aa (vI (w64 (c.At+f))) (aa (vB (decide (((mGet (λ(a b:Pair)=>(eqS a.f_player b.f_player&&(eqS a.f_alert b.f_alert&&true))) g (⟨e.Player,c.Id⟩:Pair)).getD 0)>(w64 (c.At+f))))) (aa (vB (decide (((mGet (λ(a b:Pair)=>(eqS a.f_player b.f_player&&(eqS a.f_alert b.f_alert&&true))) g (⟨e.Player,c.Id⟩:Pair)).getD 0)>(w64 (c.At+f))))) (ah ?_))))))
            rcases aj y with⟨Å,y⟩|⟨Å,y⟩
            ·refine aA rfl Å (au (aa (gV t 4 w) (aH Cj rfl 0 rfl wz (aC 0 2 il ft sz9 ag9 rfl rfl (vS e.Player) rfl wz (aH kZ rfl 0 rfl wz (aC 0 3 il ft sz9 ag9 rfl rfl (vS c.Id) rfl wz (aa (vI (w64 (c.At+f))) (aa (vI ((mGet (λ(a b:Pair)=>(eqS a.f_player b.f_player&&(eqS a.f_alert b.f_alert&&true))) g (⟨e.Player,c.Id⟩:Pair)).getD 0)) (aJ (.d (.agg (Debt.enc (⟨e.Player,c.Id,(w64 (c.At+f)),((mGet (λ(a b:Pair)=>(eqS a.f_player b.f_player&&(eqS a.f_alert b.f_alert&&true))) g (⟨e.Player,c.Id⟩:Pair)).getD 0)⟩:Debt)))) wz (by kernel_rfl) (dW (([(⟨e.Player,c.Id,(w64 (c.At+f)),((mGet (λ(a b:Pair)=>(eqS a.f_player b.f_player&&(eqS a.f_alert b.f_alert&&true))) g (⟨e.Player,c.Id⟩:Pair)).getD 0)⟩:Debt)]:List Debt).map Debt.enc) es49 ez49 rfl rfl rfl rfl rfl wz ?_))))))))))
             obtain ⟨Ó,á,y⟩:=bind_some y
             refine lh 0 il ft (i:=1) el49 el49 sz54 z54 rfl (by decide) by54 (by decide) (λ_=>rfl) rfl rfl rfl á wz (λÐ=>aa (gV Ð 4 Ó) (ah ?_))
             obtain rfl:=ae y
             exact aU Ð trivial rfl (aG rfl)
            ·refine ay rfl Å (av ?_)
             obtain rfl:=ae y
             exact aU t trivial rfl (aG rfl)
          ·rintro Q _ Y U G H
           refine aN _ G H (au (dx (bf I Î) wz rfl (aa (vI ((u+1:Nat):Int)) (ah ?_))))
           obtain rfl:=ae A
           exact aV (u+1,X,Ì,Q) ⟨K,aP I⟩ (ls_ _) rfl (aG rfl)
      ·rintro ⟨w,t⟩ É Y U G H
       subst É
       refine aN _ G H (au (dx (bf J Õ) wz rfl (aa (vI ((B+1:Nat):Int)) (ah ?_))))
       obtain rfl:=ae W
       exact aV (B+1,Ê,w,t) ⟨O,aP J⟩ (ls_ _) rfl (aG rfl)
    ·rintro ⟨E,q⟩ É Y U G H
     subst É
     refine aN _ G H (ai (aa (gV q 4 E) ?_))
     obtain ⟨T,Ý,h⟩:=bind_some h
     obtain ⟨_,P,h⟩:=bind_some h
     replace P:=jQ P
     refine kC 0 [] 1 0 il ft (rM Ý) rfl hb51 rfl rfl rfl (by kernel_rfl) rfl (.inl rfl) rfl (by kernel_rfl) (by kernel_rfl) (by kernel_rfl) (by kernel_rfl) rfl (by decide) (by kernel_rfl) jN (tV P) wz ([((n 0),some (bM (λx=>D.agg (Pair.enc x)) (D.int .i64) g)),(q,gB 4 Debt.enc T)]:Hp) (by kernel_rfl) (bT (v':=(gV q 4 T)) 119 rfl (fC P.symm) (bT (v':=(gV q 4 T)) 15 rfl (fC P.symm) (ah (ai (aa (gV q 4 T) (aa (gV q 4 T) (aa (vI 0) (ah ?_))))))))
     obtain rfl:=ae h
     exact aB (Bo (outs:=([]:List Box)) [.int .i64 0] (.inr rfl) 1 rfl ⟨rfl,trivial⟩ rfl rfl (by kernel_rfl) (by kernel_rfl))
theorem Ad {b:Int} {r:Int} (a:nQ b=some r) :
  FnM Tryz.prog 55 [(vI b)] [] (vI r) []:=by
 refine FnM.of_wH ⟨Tryz.prog,6,[],[]⟩ rfl Tryz.func55 rfl rfl (lb_ rfl) (by kernel_rfl) ?_
 unfold nQ at a
 refine ai (aa (vI 0) (ah (ak (ai (aa (vI b) ?_)))))
 obtain ⟨e,d,a⟩:=bind_some a
 refine aD (gM d) rfl IV rfl rfl rfl rfl wz (aa (vB (!e)) (ah ?_))
 rcases aj a with⟨c,a⟩|⟨c,a⟩
 ·refine aA rfl c (ai (aa (vI 1) (ah ?_)))
  obtain rfl:=ae a
  exact aB (aM [(vI 1)] ⟨rfl,trivial⟩)
 ·refine ay rfl c (av (ai (aa (vI 0) (ah ?_))))
  obtain rfl:=ae a
  exact aB (aM [(vI 0)] ⟨rfl,trivial⟩)
theorem IY {a:Alert} {e:Int} {b:Int} {r:Bool} (f:vw a e b=some r) :
  FnM Tryz.prog 83 [(.d (.agg (Alert.enc a))),(vI e),(vI b)] [] (vB r) []:=by
 refine FnM.of_wH ⟨Tryz.prog,21,[],[]⟩ rfl Tryz.func83 rfl rfl (lb_ rfl) (by kernel_rfl) ?_
 unfold vw at f
 refine ai (eT 0 (.inl rfl) (Alert.v a) rfl rfl wz (λl=>aa (vB false) (ah (ak ?_))))
 obtain ⟨i,c,f⟩:=bind_some f
 refine aR [(6,(vB i))] [(l,some (.cells 9 (Alert.v a)))] ?_ ?_
 ·refine au (aH xk rfl 2 rfl wz (aC 0 0 il ft sz3 ag3 rfl rfl (vI a.Kind) rfl wz (aa (vB (a.Kind != 3)) ?_)))
  rcases aj c with⟨g,c⟩|⟨g,c⟩
  ·refine aF rfl g wz (aH lg rfl 4 rfl wa (aC 0 0 il ft sz3 ag3 rfl rfl (vI a.At) rfl wa (aJ (vI b) wa rfl (aJ (vB (decide (a.At<=b))) wa rfl (aa (vB (decide (a.At<=b))) ?_)))))
   rcases aj c with⟨h,c⟩|⟨h,c⟩
   ·refine aF rfl h wz (aJ (vI b) wa rfl (aJ (vI e) wa rfl (aJ (vB (decide (b<e))) wa rfl (aa (vB (decide (b<e))) (aa (vB (decide (b<e))) (ah ?_))))))
    obtain rfl:=ae c
    exact cu
   ·refine aF rfl h wz (af (af (af (aa (vB false) (aa (vB false) (ah ?_))))))
    obtain rfl:=ae c
    exact cu
  ·refine aF rfl g wz (af (af (af (af (aa (vB false) (aa (vB false) (af (af (af (aa (vB false) (aa (vB false) (ah ?_))))))))))))
   obtain rfl:=ae c
   exact cu
 ·rintro ⟨⟩ _ n m j k
  refine aN _ j k ?_
  obtain rfl:=ae f
  exact aB (aM [(vB i)] ⟨rfl,trivial⟩)
theorem Fu {b:Alert} {c:Alert} {r:Int} (a:oV b c=some r) :
  FnM Tryz.prog 84 [(.d (.agg (Alert.enc b))),(.d (.agg (Alert.enc c)))] [] (vI r) []:=by
 refine FnM.of_wH ⟨Tryz.prog,22,[],[]⟩ rfl Tryz.func84 rfl rfl (lb_ rfl) (by kernel_rfl) ?_
 unfold oV at a
 refine ai (eT 0 (.inl rfl) (Alert.v b) rfl rfl wz (λm=>eT 0 (.inl rfl) (Alert.v c) rfl rfl wz (λn=>aa (vI 0) (ah (ak (bv (aH DU rfl 6 rfl wz (aC 1 1 (.inr (by kernel_rfl)) (λ_ _ ag=>trivial) sz3 ag3 rfl rfl (vI c.Weight) rfl wz (aH DU rfl 6 rfl wz (aC 3 0 (.inr (by kernel_rfl)) (λ_ _ ag=>⟨.inl ⟨rfl,rfl⟩,trivial⟩) sz3 ag3 rfl rfl (vI b.Weight) rfl wz ?_))))))))))
 obtain ⟨j,h,a⟩:=bind_some a
 refine aD (iT h) rfl Oa rfl rfl rfl rfl wz (aH lg rfl 4 rfl wz (aC 6 1 (.inr (by kernel_rfl)) (λ_ _ ag=>⟨.inl ⟨rfl,rfl⟩,⟨.inl ⟨rfl,rfl⟩,trivial⟩⟩) sz3 ag3 rfl rfl (vI c.At) rfl wz (aH lg rfl 4 rfl wz (aC 8 0 (.inr (by kernel_rfl)) (λ_ _ ag=>⟨.inl ⟨rfl,rfl⟩,⟨.inl ⟨rfl,rfl⟩,⟨.inl ⟨rfl,rfl⟩,trivial⟩⟩⟩) sz3 ag3 rfl rfl (vI b.At) rfl wz ?_))))
 obtain ⟨k,i,a⟩:=bind_some a
 refine aD (iT i) rfl Oa rfl rfl rfl rfl wz (aH kZ rfl 0 rfl wz (aC 11 0 (.inr (by kernel_rfl)) (λ_ _ ag=>⟨.inl ⟨rfl,rfl⟩,⟨.inl ⟨rfl,rfl⟩,⟨.inl ⟨rfl,rfl⟩,⟨.inl ⟨rfl,rfl⟩,trivial⟩⟩⟩⟩) sz9 ag9 rfl rfl (vS b.Id) rfl wz (aH kZ rfl 0 rfl wz (aC 13 1 (.inr (by kernel_rfl)) (λ_ _ ag=>⟨.inl ⟨rfl,rfl⟩,⟨.inl ⟨rfl,rfl⟩,⟨.inl ⟨rfl,rfl⟩,⟨.inl ⟨rfl,rfl⟩,⟨.inl ⟨rfl,rfl⟩,trivial⟩⟩⟩⟩⟩) sz9 ag9 rfl rfl (vS c.Id) rfl wz ?_))))
 obtain ⟨l,f,a⟩:=bind_some a
 refine aD (gL f) rfl LJ rfl rfl rfl rfl wz (dW (([j,k,l]:List Int).map eI) nZ BI rfl rfl rfl rfl rfl wz ?_)
 obtain ⟨e,g,a⟩:=bind_some a
 refine aD (lV g) rfl Np rfl rfl rfl rfl wz (aa (vI e) (ah ?_))
 obtain rfl:=ae a
 exact aB (aM [(vI e)] ⟨rfl,trivial⟩)
theorem mO {k:(List Alert)} {f:Int} {h:Int} {r:(List Alert)} (p:fT k f h=some r) :
  FnM Tryz.prog 97 [(dV (ax 0) 9 k),(vI f),(vI h),(.fn 84 [])] (([]:List Box)++gI 9 Alert.enc k) (.tup []) (([]:List Box).map some++gT k (gB 9 Alert.enc r)):=by
 refine FnM.of_wHv ⟨Tryz.prog,53,[],[]⟩ rfl Tryz.func97 rfl rfl (lb_ rfl) (by kernel_rfl) ?_
 unfold fT at p
 refine ai (aa (vI f) (aa (vI (w64 (f+1))) (aa (vI (w64 (f+1))) (ah ?_))))
 obtain ⟨Z,y,p⟩:=bind_some p
 obtain ⟨Y,y⟩:=dF y
 refine eU (λ(c:(List Alert)×Int)=>[]) (λ(c:(List Alert)×Int)=>[((ax 0),gB 9 Alert.enc c.1)]) (λ(u:Nat)=>(λ(c:(List Alert)×Int)=>[(0,(dV (ax 0) 9 c.1)),(1,(vI f)),(2,(vI h)),(3,(.fn 84 [])),(8,(vI c.2))])) (λs=>fo h f s) Z Y (k,(w64 (f+1))) y rfl (aG rfl) ?_ ?_
 ·rintro ⟨u,c⟩ l
  dsimp only at l
  cases u with
  | zero=>cases l
  | succ u =>
   obtain ⟨L,j,l⟩:=bind_some l
   unfold fo at j
   refine ak (ai (aa (vI c.2) (aa (vI h) (aa (vB (decide (c.2<h))) (ah ?_)))))
   rcases aj j with⟨v,j⟩|⟨v,j⟩
   ·refine aA rfl v (av (ak (aK (ai (aa (vI c.2) (aa (vI c.2) (ah ?_)))))))
    obtain ⟨À,z,j⟩:=bind_some j
    obtain ⟨X,z⟩:=dF z
    refine eU (λ(a:(List Alert)×Int)=>[(0,(dV (ax 0) 9 a.1)),(1,(vI f)),(2,(vI h)),(3,(.fn 84 [])),(8,(vI c.2))]) (λ(a:(List Alert)×Int)=>[((ax 0),gB 9 Alert.enc a.1)]) (λ(t:Nat)=>(λ(a:(List Alert)×Int)=>[(0,(dV (ax 0) 9 a.1)),(1,(vI f)),(2,(vI h)),(3,(.fn 84 [])),(8,(vI c.2)),(9,(vI a.2))])) (λs=>fA f s) À X (c.1,c.2) z rfl (aG rfl) ?_ ?_
    ·rintro ⟨t,a⟩ m
     dsimp only at m
     cases t with
     | zero=>cases m
     | succ t =>
      obtain ⟨L,b,m⟩:=bind_some m
      unfold fA at b
      refine ak (ak ?_)
      obtain ⟨Á,e,b⟩:=bind_some b
      refine aR [(0,(dV (ax 0) 9 a.1)),(1,(vI f)),(2,(vI h)),(3,(.fn 84 [])),(8,(vI c.2)),(9,(vI a.2)),(34,(vB Á))] [((ax 0),gB 9 Alert.enc a.1)] ?_ ?_
      ·refine bv (aa (vI a.2) (aa (vI f) (aa (vB (decide (a.2>f))) ?_)))
       rcases aj e with⟨w,e⟩|⟨w,e⟩
       ·refine aF rfl w wz (aJ (.fn 84 []) wa rfl (aJ (dV (ax 0) 9 a.1) wa rfl (aJ (vI a.2) wa rfl ?_)))
        obtain ⟨_,C,e⟩:=bind_some e
        refine iZ mH rfl rfl (gN C) (dP C) wa ?_
        obtain ⟨M,P,e⟩:=bind_some e
        refine jm 8 0 (.inr (by kernel_rfl)) (λ_ _ ag=>trivial) fJ jZ rfl rfl P (.d (.agg (Alert.enc M))) rfl wa (aJ (dV (ax 0) 9 a.1) wa rfl (aJ (vI a.2) wa rfl (aJ (vI (w64 (a.2-1))) wa rfl ?_)))
        obtain ⟨_,E,e⟩:=bind_some e
        refine iZ mH rfl rfl (gN E) (dP E) wa ?_
        obtain ⟨N,Q,e⟩:=bind_some e
        refine jm 13 0 (.inr (by kernel_rfl)) (λ_ _ ag=>⟨.inl ⟨rfl,rfl⟩,trivial⟩) fJ jZ rfl rfl Q (.d (.agg (Alert.enc N))) rfl wa ?_
        obtain ⟨J,O,e⟩:=bind_some e
        refine aD (Fu O) rfl hb84 rfl rfl rfl rfl wa (aJ (vB (decide (J<0))) wa rfl (aa (vB (decide (J<0))) (ah ?_)))
        obtain rfl:=ae e
        exact cu
       ·refine aF rfl w wz (af (af (af (af (af (af (af (af (af (af (af (af (aa (vB false) (ah ?_))))))))))))))
        obtain rfl:=ae e
        exact cu
      ·rintro ⟨⟩ _ K B q n
       refine aN _ q n ?_
       rcases aj b with⟨x,b⟩|⟨x,b⟩
       ·refine aA rfl x (av (ak (aK (bv (aa (dV (ax 0) 9 a.1) (aa (vI a.2) (aa (dV (ax 0) 9 a.1) (aa (vI a.2) (aa (vI (w64 (a.2-1))) (aa (dV (ax 0) 9 a.1) (aa (vI a.2) (aa (vI (w64 (a.2-1))) ?_))))))))))))
        obtain ⟨_,F,b⟩:=bind_some b
        refine iZ mH rfl rfl (gN F) (dP F) wz ?_
        obtain ⟨g,R,b⟩:=bind_some b
        refine jm 9 0 (.inr (by kernel_rfl)) (λ_ _ ag=>trivial) fJ jZ rfl rfl R (.d (.agg (Alert.enc g))) rfl wz (aa (dV (ax 0) 9 a.1) (aa (vI a.2) ?_))
        obtain ⟨_,G,b⟩:=bind_some b
        refine iZ mH rfl rfl (gN G) (dP G) wz ?_
        obtain ⟨i,T,b⟩:=bind_some b
        refine jm 13 0 (.inr (by kernel_rfl)) (λ_ _ ag=>⟨.inl ⟨rfl,rfl⟩,trivial⟩) fJ jZ rfl rfl T (.d (.agg (Alert.enc i))) rfl wz ?_
        obtain ⟨_,H,b⟩:=bind_some b
        refine iZ mH rfl rfl (gN H) (dP H) wz ?_
        obtain ⟨Â,U,b⟩:=bind_some b
        refine pR 15 (.inr (by kernel_rfl)) (λ_ _ ag=>⟨.inr (.inr (by kernel_rfl)),⟨.inr (.inr (by kernel_rfl)),trivial⟩⟩) 0 fJ rfl rfl U g rfl wz (bT (v':=(dV (ax 0) 9 (a.1.set (0+(a.2).toNat) g))) 0 rfl (bP (by simp)) (bT (v':=(dV (ax 0) 9 (a.1.set (0+(a.2).toNat) g))) 37 rfl (bP (by simp)) (bT (v':=(dV (ax 0) 9 (a.1.set (0+(a.2).toNat) g))) 39 rfl (bP (by simp)) (bT (v':=(dV (ax 0) 9 (a.1.set (0+(a.2).toNat) g))) 42 rfl (bP (by simp)) (bT (v':=(dV (ax 0) 9 (a.1.set (0+(a.2).toNat) g))) 47 rfl (bP (by simp)) ?_)))))
        obtain ⟨_,I,b⟩:=bind_some b
        refine iZ mH rfl rfl (gN I) (dP I) wz ?_
        obtain ⟨Ã,W,b⟩:=bind_some b
        refine pR 17 (.inr (by kernel_rfl)) (λ_ _ ag=>⟨.inr (.inr (by kernel_rfl)),⟨.inr (.inr (by kernel_rfl)),⟨.inr (.inr (by kernel_rfl)),trivial⟩⟩⟩) 0 fJ rfl rfl W i rfl wz (bT (v':=(dV (ax 0) 9 ((a.1.set (0+(a.2).toNat) g).set (0+((w64 (a.2-1))).toNat) i))) 0 rfl (bP (by simp)) (bT (v':=(dV (ax 0) 9 ((a.1.set (0+(a.2).toNat) g).set (0+((w64 (a.2-1))).toNat) i))) 37 rfl (bP (by simp)) (bT (v':=(dV (ax 0) 9 ((a.1.set (0+(a.2).toNat) g).set (0+((w64 (a.2-1))).toNat) i))) 39 rfl (bP (by simp)) (bT (v':=(dV (ax 0) 9 ((a.1.set (0+(a.2).toNat) g).set (0+((w64 (a.2-1))).toNat) i))) 42 rfl (bP (by simp)) (bT (v':=(dV (ax 0) 9 ((a.1.set (0+(a.2).toNat) g).set (0+((w64 (a.2-1))).toNat) i))) 47 rfl (bP (by simp)) (ah (au (aa (vI a.2) (aa (vI (w64 (a.2-1))) (aa (vI (w64 (a.2-1))) (ah ?_)))))))))))
        obtain rfl:=ae b
        exact aV (t,(((a.1.set (0+(a.2).toNat) g).set (0+((w64 (a.2-1))).toNat) i),(w64 (a.2-1)))) m (ls_ _) rfl (aG rfl)
       ·refine ay rfl x (aX ?_)
        obtain rfl:=ae b
        obtain rfl:=ae m
        exact aU ((a.1,a.2)) rfl rfl (aG rfl)
    ·rintro a A K B q n
     subst A
     refine aN _ q n (au (aa (vI c.2) (aa (vI (w64 (c.2+1))) (aa (vI (w64 (c.2+1))) (ah ?_)))))
     obtain rfl:=ae j
     exact aV (u,(a.1,(w64 (c.2+1)))) l (ls_ _) rfl (aG rfl)
   ·refine ay rfl v (aX ?_)
    obtain rfl:=ae j
    obtain rfl:=ae l
    exact aU ((c.1,c.2)) rfl rfl (aG rfl)
 ·rintro c A K B q n
  subst A
  show pI _ _ _ _ _ _ _ _
  obtain rfl:=ae p
  exact nV (H0:=([((ax 0),gB 9 Alert.enc c.1)]:Hp)) (sl':=envS []) n (uY (bs:=([]:List Box)) (os:=([]:List Box)) (xs:=k) (o:=gB 9 Alert.enc c.1) (.inl rfl) [] trivial rfl rfl rfl rfl rfl (by kernel_rfl) jN rfl)
theorem o7 {a:(List Alert)} {c:Int} {d:Int} {e:Int} {r:(List Alert)} (f:iQ a c d e=some r) :
  FnM Tryz.prog 64 [(dV (ax 0) 9 a),(vI c),(vI d),(vI e),(.fn 84 [])] (([]:List Box)++gI 9 Alert.enc a) (.tup []) (([]:List Box).map some++gT a (gB 9 Alert.enc r)):=by
 refine FnM.of_wHv ⟨Tryz.prog,148,[],[]⟩ rfl Tryz.func64 rfl rfl (lb_ rfl) (by kernel_rfl) ?_
 unfold iQ at f
 refine ai (aa (vB true) (ah (ai (aa (vB true) (ah ?_)))))
 obtain ⟨v,m,f⟩:=bind_some f
 obtain ⟨u,m⟩:=dF m
 refine eU (λ(j:Unit)=>[]) (λ(j:Unit)=>[((ax 0),gB 9 Alert.enc a)]) (λ(n:Nat)=>(λ(j:Unit)=>[(0,(dV (ax 0) 9 a)),(1,(vI c)),(2,(vI d)),(3,(vI e)),(4,(.fn 84 [])),(10,(vB true)),(11,(vB true))])) (λs=>ib d c a e s) v u () m rfl (aG rfl) ?_ ?_
 ·rintro ⟨n,j⟩ g
  dsimp only at g
  cases n with
  | zero=>cases g
  | succ n =>
   obtain ⟨x,b,g⟩:=bind_some g
   unfold ib at b
   refine aK (ai (aa (vI d) (aa (vI c) (aa (vI (w64 (d-c))) (aa (vI (w64 (d-c))) (ah (ak (ai (aa (vI (w64 (d-c))) (aa (vB (decide ((w64 (d-c))<=12))) (ah ?_)))))))))))
   rcases aj b with⟨k,b⟩|⟨k,b⟩
   ·refine aA rfl k (ai (aa (dV (ax 0) 9 a) (aa (vI c) (aa (vI d) (aa (.fn 84 []) ?_)))))
    obtain ⟨i,t,b⟩:=bind_some b
    obtain ⟨_,h,b⟩:=bind_some b
    replace h:=jQ h
    refine kC 0 [] 0 0 il ft (mO t) rfl hb97 rfl rfl rfl (by kernel_rfl) rfl (.inr (.inl rfl)) rfl (by kernel_rfl) (by kernel_rfl) (by kernel_rfl) (by kernel_rfl) rfl (by decide) (by kernel_rfl) jN (tV h) wz ([((ax 0),gB 9 Alert.enc i)]:Hp) (by kernel_rfl) (bT (v':=(dV (ax 0) 9 i)) 0 rfl (bP h.symm) (bT (v':=(dV (ax 0) 9 i)) 26 rfl (bP h.symm) (ah ?_)))
    obtain rfl:=ae b
    obtain rfl:=ae g
    obtain rfl:=ae f
    exact aB (uY (bs:=([]:List Box)) (os:=([]:List Box)) (xs:=a) (o:=gB 9 Alert.enc i) (.inr rfl) [] trivial rfl rfl rfl rfl rfl (by kernel_rfl) jN rfl)
   ·refine ay rfl k (av (ak (ai (aa (vI e) (aa (vB (e==0)) (ah ?_))))))
    rcases aj b with⟨l,b⟩|⟨l,b⟩
    ·refine aA rfl l (ai (aa (dV (ax 0) 9 a) (aa (vI c) (aa (vI d) (aa (.fn 84 []) ?_)))))
     cases b
    ·refine ay rfl l (av (ak (ai (aa (vB true) (aa (vB false) (ah (ay rfl rfl (av (ai (aa (dV (ax 0) 9 a) (aa (vI c) (aa (vI d) (aa (.fn 84 []) ?_)))))))))))))
     cases b
 ·rintro j p z w y q
  subst p
  show pI _ _ _ _ _ _ _ _
  obtain rfl:=ae f
  exact nV (H0:=([((ax 0),gB 9 Alert.enc a)]:Hp)) (sl':=envS []) q (uY (bs:=([]:List Box)) (os:=([]:List Box)) (xs:=a) (o:=gB 9 Alert.enc a) (.inl rfl) [] trivial rfl rfl rfl rfl rfl (by kernel_rfl) jN rfl)
theorem nE {a:(List Alert)} {r:(List Alert)} (b:dw a=some r) :
  FnM Tryz.prog 27 [(dV (ax 0) 9 a),(.fn 84 [])] (([]:List Box)++gI 9 Alert.enc a) (.tup []) (([]:List Box).map some++gT a (gB 9 Alert.enc r)):=by
 refine FnM.of_wHv ⟨Tryz.prog,14,[],[]⟩ rfl Tryz.func27 rfl rfl (lb_ rfl) (by kernel_rfl) ?_
 unfold dw at b
 refine ai (aa (dV (ax 0) 9 a) (wZ uS rfl wz (aa (vI (a.length:Int)) (ah (au (aa (dV (ax 0) 9 a) (aa (vI (a.length:Int)) (aa (vI (a.length:Int)) (zH un3 JO rfl wz ?_)))))))))
 obtain ⟨g,e,b⟩:=bind_some b
 refine aD (o9 e) rfl hb65 rfl rfl rfl rfl wz (aa (.fn 84 []) ?_)
 obtain ⟨d,f,b⟩:=bind_some b
 obtain ⟨_,c,b⟩:=bind_some b
 replace c:=jQ c
 refine kC 0 [] 0 0 il ft (o7 f) rfl hb64 rfl rfl rfl (by kernel_rfl) rfl (.inr (.inl rfl)) rfl (by kernel_rfl) (by kernel_rfl) (by kernel_rfl) (by kernel_rfl) rfl (by decide) (by kernel_rfl) jN (tV c) wz ([((ax 0),gB 9 Alert.enc d)]:Hp) (by kernel_rfl) (bT (v':=(dV (ax 0) 9 d)) 0 rfl (bP c.symm) (bT (v':=(dV (ax 0) 9 d)) 5 rfl (bP c.symm) (bT (v':=(dV (ax 0) 9 d)) 7 rfl (bP c.symm) (ah ?_))))
 show pI _ _ _ _ _ _ _ _
 obtain rfl:=ae b
 exact uY (bs:=([]:List Box)) (os:=([]:List Box)) (xs:=a) (o:=gB 9 Alert.enc d) (.inl rfl) [] trivial rfl rfl rfl rfl rfl (by kernel_rfl) jN rfl
end Go.Proofs.YtadpbmfnnlkdlacGreatDoor.Law

