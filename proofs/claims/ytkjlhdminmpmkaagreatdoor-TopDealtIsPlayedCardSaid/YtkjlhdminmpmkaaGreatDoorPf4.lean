/-
 The machine computes these plain functions (written by a program of ours).
-/
import Derived.Test.YtkjlhdminmpmkaaGreatDoorFacts
import Derived.Test.YtkjlhdminmpmkaaGreatDoorDefs
import Derived.Test.YtkjlhdminmpmkaaGreatDoorPf3
open Go Go.Eng Go.Proofs
namespace Go.Proofs.YtkjlhdminmpmkaaGreatDoor.Law
set_option maxRecDepth 100000
set_option linter.unusedVariables false
set_option maxHeartbeats 1000000
theorem rq {b:(List Beat)} {r:Int} (g:fq b=some r) :
  FnM Tryz.prog 30 [(vL Beat.enc b)] [] (vI r) []:=by
 refine FnM.of_wH ⟨Tryz.prog,69,[],[]⟩ rfl Tryz.func30 rfl rfl (lb_ rfl) (by kernel_rfl) ?_
 unfold fq at g
 refine ai (aa (vI 0) (af (ak (ai (aa (vL Beat.enc b) (bQ un82 rfl wz (aa (vB (decide ((b.length:Int)>500))) (af ?_))))))))
 rcases aj g with⟨y,g⟩|⟨y,g⟩
 ·refine aA rfl y (ai (aa (vI 2) (af ?_)))
  obtain rfl:=ae g
  exact aC (aO [(vI 2)] ⟨rfl,trivial⟩)
 ·refine ay rfl y (ax (ak (ai (aa (vL Beat.enc b) (bQ un82 rfl wz (aa (vI 0) (af ?_)))))))
  obtain ⟨Y,H,g⟩:=bind_some g
  obtain ⟨N,H⟩:=bn H
  refine dB (λ(q:Unit)=>[]) (λ(q:Unit)=>[]) (λ(c:Nat)=>(λ(q:Unit)=>[(0,(vL Beat.enc b)),(8,(vL Beat.enc b)),(9,(vI (b.length:Int))),(10,(vI (c:Int)))])) (λk x s=>ib b k x s) Y b () H rfl (aK rfl) ?_ ?_
  ·rintro ⟨c,I,q⟩ ⟨h,n⟩
   dsimp only at h n
   cases I with
   | nil =>
    obtain rfl:=ae h
    refine ai (aa (vB (decide ((c:Int)<(b.length:Int)))) (af ?_))
    refine ak (ay rfl (drop_nil n) (aY ?_))
    exact aW (q) rfl rfl (aK rfl)
   | cons e I =>
    obtain ⟨Ä,a,h⟩:=bind_some h
    refine ai (aa (vB (decide ((c:Int)<(b.length:Int)))) (af ?_))
    refine ak (aA rfl (bE n) (ax ?_))
    unfold ib at a
    refine ak (aQ (ai (aa (vI (c:Int)) (dI Po rfl rfl (bN n) rfl wz (bH OX ag81 rfl (.d (.agg (Beat.enc e))) rfl wz (dz 0 (.inl rfl) z81 rfl wz (λp=>aa (vI (c:Int)) (gp 0 il ft 0 OX rfl rfl (Beat.v e) rfl wz (af (aQ (ai (aI Ch rfl 0 rfl wz (aH 0 0 il ft sz9 ag9 rfl rfl (vS e.Player) rfl wz ?_)))))))))))))
    obtain ⟨L,P,a⟩:=bind_some a
    refine aG (gy P) rfl CY rfl rfl rfl rfl wz (aa (vB (!L)) (aa (vB (!L)) (af ?_)))
    rcases aj a with⟨w,a⟩|⟨w,a⟩
    ·refine aA rfl w (ai (aa (vI 5) (af ?_)))
     obtain rfl:=ae a
     obtain rfl:=ae h
     obtain rfl:=ae g
     exact aC (aO [(vI 5)] ⟨rfl,trivial⟩)
    ·refine ay rfl w (ak ?_)
     obtain ⟨À,i,a⟩:=bind_some a
     refine aU [(0,(vL Beat.enc b)),(3,(vI (c:Int))),(4,(.ref p 0 0)),(8,(vL Beat.enc b)),(9,(vI (b.length:Int))),(10,(vI (c:Int))),(20,(vB À))] [(p,some (.cells 3 (Beat.v e)))] ?_ ?_
     ·refine au (aI DV rfl 1 rfl wz (aH 0 0 il ft sz3 ag3 rfl rfl (vI e.At) rfl wz ?_))
      obtain ⟨Z,Q,i⟩:=bind_some i
      refine aG (gD Q) rfl Ib rfl rfl rfl rfl wz (aa (vB (!Z)) ?_)
      rcases aj i with⟨z,i⟩|⟨z,i⟩
      ·refine aB rfl z wz (ah (ah (ah (aa (vB true) (aa (vB true) (af ?_))))))
       obtain rfl:=ae i
       exact cu
      ·refine aB rfl z wz (aI DL rfl 2 rfl wa (aH 0 0 il ft sz3 ag3 rfl rfl (vI e.Clock) rfl wa ?_))
       obtain ⟨M,R,i⟩:=bind_some i
       refine aG (bA R) rfl rR rfl rfl rfl rfl wa (aa (vB M) (aa (vB M) (af ?_)))
       obtain rfl:=ae i
       exact cu
     ·rintro ⟨⟩ _ K u l m
      refine aR _ l m ?_
      rcases aj a with⟨A,a⟩|⟨A,a⟩
      ·refine aA rfl A (ai (aa (vI 1) (af ?_)))
       obtain rfl:=ae a
       obtain rfl:=ae h
       obtain rfl:=ae g
       exact aC (aO [(vI 1)] ⟨rfl,trivial⟩)
      ·refine ay rfl A (ak ?_)
       obtain ⟨Á,j,a⟩:=bind_some a
       refine aU [(0,(vL Beat.enc b)),(3,(vI (c:Int))),(4,(.ref p 0 0)),(8,(vL Beat.enc b)),(9,(vI (b.length:Int))),(10,(vI (c:Int))),(30,(vB Á))] [(p,some (.cells 3 (Beat.v e)))] ?_ ?_
       ·refine bv (aa (vI (c:Int)) (aa (vB (decide ((c:Int)>0))) ?_))
        rcases aj j with⟨B,j⟩|⟨B,j⟩
        ·refine aB rfl B wz (aL (vL Beat.enc b) wa rfl (aL (vI (c:Int)) wa rfl (aL (vI (w64 ((c:Int)-1))) wa rfl ?_)))
         obtain ⟨Ã,U,j⟩:=bind_some j
         refine dI Po rfl rfl U rfl wa (bH OX ag81 rfl (.d (.agg (Beat.enc Ã))) rfl wa (aH 8 0 (.inr (by kernel_rfl)) (λ_ _ ag=>trivial) OX ag81 rfl rfl (.d (.agg (Beat.enc e))) rfl wa ?_))
         obtain ⟨J,T,j⟩:=bind_some j
         refine aG (wY T) rfl hb56 rfl rfl rfl rfl wa (aL (vB (decide (J>=0))) wa rfl (aa (vB (decide (J>=0))) (aa (vB (decide (J>=0))) (af ?_))))
         obtain rfl:=ae j
         exact cu
        ·refine aB rfl B wz (ah (ah (ah (ah (ah (ah (ah (ah (aa (vB false) (aa (vB false) (af ?_)))))))))))
         obtain rfl:=ae j
         exact cu
       ·rintro ⟨⟩ _ K u l m
        refine aR _ l m ?_
        rcases aj a with⟨C,a⟩|⟨C,a⟩
        ·refine aA rfl C (ai (aa (vI 7) (af ?_)))
         obtain rfl:=ae a
         obtain rfl:=ae h
         obtain rfl:=ae g
         exact aC (aO [(vI 7)] ⟨rfl,trivial⟩)
        ·refine ay rfl C (ak ?_)
         obtain ⟨Â,f,a⟩:=bind_some a
         refine aU [(0,(vL Beat.enc b)),(8,(vL Beat.enc b)),(9,(vI (b.length:Int))),(10,(vI (c:Int))),(43,(vB Â))] [(p,some (.cells 3 (Beat.v e)))] ?_ ?_
         ·refine bv (aa (vI (c:Int)) (aa (vB (decide ((c:Int)>0))) ?_))
          rcases aj f with⟨E,f⟩|⟨E,f⟩
          ·refine aB rfl E wz (aI Ch rfl 0 rfl wa (aH 4 0 (.inr (by kernel_rfl)) (λ_ _ ag=>trivial) sz9 ag9 rfl rfl (vS e.Player) rfl wa (aL (vL Beat.enc b) wa rfl (aL (vI (c:Int)) wa rfl (aL (vI (w64 ((c:Int)-1))) wa rfl ?_)))))
           obtain ⟨o,W,f⟩:=bind_some f
           refine dI Po rfl rfl W rfl wa (lQ Ch rfl [.str o.Player,.int .i64 o.At,.int .i64 o.Clock] rfl rfl wa (bH sz9 ag9 rfl (vS o.Player) rfl wa (aL (vB (sEq e.Player o.Player)) wa rfl (aa (vB (sEq e.Player o.Player)) ?_))))
           rcases aj f with⟨F,f⟩|⟨F,f⟩
           ·refine aB rfl F wz (aI DL rfl 2 rfl wa (aH 15 0 (.inr (by kernel_rfl)) (λ_ _ ag=>⟨.inl ⟨rfl,rfl⟩,trivial⟩) sz3 ag3 rfl rfl (vI e.Clock) rfl wa (aL (vL Beat.enc b) wa rfl (aL (vI (c:Int)) wa rfl (aL (vI (w64 ((c:Int)-1))) wa rfl ?_)))))
            obtain ⟨t,X,f⟩:=bind_some f
            refine dI Po rfl rfl X rfl wa (lQ DL rfl [.int .i64 t.Clock] rfl rfl wa (bH sz3 ag3 rfl (vI t.Clock) rfl wa (aL (vB (decide (e.Clock<=t.Clock))) wa rfl (aa (vB (decide (e.Clock<=t.Clock))) (aa (vB (decide (e.Clock<=t.Clock))) (af ?_))))))
            obtain rfl:=ae f
            exact cu
           ·refine aB rfl F wz (ah (ah (ah (ah (ah (ah (ah (ah (ah (aa (vB false) (aa (vB false) (af ?_))))))))))))
            obtain rfl:=ae f
            exact cu
          ·refine aB rfl E wz (ah (ah (ah (ah (ah (ah (ah (ah (ah (aa (vB false) (aa (vB false) (ah (ah (ah (ah (ah (ah (ah (ah (ah (aa (vB false) (aa (vB false) (af ?_)))))))))))))))))))))))
           obtain rfl:=ae f
           exact cu
         ·rintro ⟨⟩ _ K u l m
          refine aR _ l m ?_
          rcases aj a with⟨G,a⟩|⟨G,a⟩
          ·refine aA rfl G (ai (aa (vI 16) (af ?_)))
           obtain rfl:=ae a
           obtain rfl:=ae h
           obtain rfl:=ae g
           exact aC (aO [(vI 16)] ⟨rfl,trivial⟩)
          ·refine ay rfl G (ax (au (dS (bC n N) wz rfl (aa (vI ((c+1:Nat):Int)) (af ?_)))))
           obtain rfl:=ae a
           exact aZ (c+1,I,()) ⟨h,aV n⟩ (ls_ _) rfl (aK rfl)
  ·rintro q O K u l m
   subst O
   refine aR _ l m (ai (aa (vI 0) (af ?_)))
   obtain rfl:=ae g
   exact aC (aO [(vI 0)] ⟨rfl,trivial⟩)
theorem uJ {f:(List Beat)} {g:ByteArray} {h:Bool} {r:(List Beat_)} (o:j3 f g h=some r) :
  FnM Tryz.prog 57 [(vL Beat.enc f),(vS g),(vB h)] [] (vL Beat_.enc r) []:=by
 refine FnM.of_wH ⟨Tryz.prog,41,[],[]⟩ rfl Tryz.func57 rfl rfl (lb_ rfl) (by kernel_rfl) ?_
 unfold j3 at o
 refine ai (aa .nil (af (ai (aa .nil (af (ak (ai (aa (vL Beat.enc f) (bQ un82 rfl wz (aa (vI 0) (af (jJ (λM => ?_)))))))))))))
 obtain ⟨P,w,o⟩:=bind_some o
 obtain ⟨I,w⟩:=bn w
 refine fV (σ:=(List Beat_)) (N:=Nm) (λp=>(λ(e:List Beat_) (c:Nm)=>([(7,(gV c 2 e))]:SL_)) p.1 p.2) (λp=>(λ(e:List Beat_) (c:Nm)=>([(c,gB 2 Beat_.enc e)]:Hp)) p.1 p.2) (λ(j:Nat)=>(λp=>(λ(e:List Beat_) (c:Nm)=>([(1,(vS g)),(2,(vB h)),(7,(gV c 2 e)),(10,(vL Beat.enc f)),(11,(vI (f.length:Int))),(12,(vI (j:Int)))]:SL_)) p.1 p.2)) (λk x s=>jg g h k x s) P f (([]:List Beat_),M) w rfl (aK rfl) ?_ ?_
 ·rintro ⟨j,A,e,c⟩ ⟨m,l⟩
  dsimp only at m l
  cases A with
  | nil =>
   obtain rfl:=ae m
   refine ai (aa (vB (decide ((j:Int)<(f.length:Int)))) (af ?_))
   refine ak (ay rfl (drop_nil l) (aY ?_))
   exact aW (e,c) rfl rfl (aK rfl)
  | cons a A =>
   obtain ⟨R,q,m⟩:=bind_some m
   refine ai (aa (vB (decide ((j:Int)<(f.length:Int)))) (af ?_))
   refine ak (aA rfl (bE l) (ax ?_))
   unfold jg at q
   refine ak (aQ (ai (dI Po rfl rfl (bN l) rfl wz (bH OX ag81 rfl (.d (.agg (Beat.enc a))) rfl wz (dz 0 (.inl rfl) z81 rfl wz (λO=>gp 0 il ft 1 OX rfl rfl (Beat.v a) rfl wz (af (aQ (ai (aI Ch rfl 0 rfl wz (aH 0 1 il ft sz9 ag9 rfl rfl (vS a.Player) rfl wz (aa (vS g) (aa (vB (sNe a.Player g)) (aa (vB (sNe a.Player g)) (af ?_)))))))))))))))
   obtain ⟨B,b,q⟩:=bind_some q
   refine kr (β:=Nm) (λ(n:Nm)=>([(1,(vS g)),(2,(vB h)),(7,(gV n 2 B)),(10,(vL Beat.enc f)),(11,(vI (f.length:Int))),(12,(vI (j:Int)))]:SL_)) (λ(n:Nm)=>([(n,gB 2 Beat_.enc B),(O,some (.cells 3 (Beat.v a)))]:Hp)) (λ_=>True) ?_ ?_
   ·rcases aj b with⟨t,b⟩|⟨t,b⟩
    ·refine aA rfl t (ax ?_)
     obtain rfl:=ae b
     exact aW c trivial rfl (aK rfl)
    ·refine ay rfl t (ai (aa (vB h) (aa (vB h) (af ?_))))
     rcases aj b with⟨u,b⟩|⟨u,b⟩
     ·refine aA rfl u (au (aa (gV c 2 e) (aI DV rfl 1 rfl wz (aH 0 1 il ft sz3 ag3 rfl rfl (vI a.At) rfl wz (aI DL rfl 2 rfl wz (aH 0 1 il ft sz3 ag3 rfl rfl (vI a.Clock) rfl wz (aL (.d (.agg (Beat_.enc (⟨a.At,a.Clock⟩:Beat_)))) wz (by kernel_rfl) (gL (([(⟨a.At,a.Clock⟩:Beat_)]:List Beat_).map Beat_.enc) Ab ez124 rfl rfl rfl rfl rfl wz ?_))))))))
      obtain ⟨G,K,b⟩:=bind_some b
      refine jr 0 il ft (i:=0) Nc Nc Gp z155 rfl (by decide) by155 (by decide) (λ_=>rfl) rfl rfl rfl K wz (λC=>aa (gV C 2 G) (af ?_))
      obtain rfl:=ae b
      exact aW C trivial rfl (aK rfl)
     ·refine ay rfl u (au (aa (gV c 2 e) (aI DL rfl 2 rfl wz (aH 0 1 il ft sz3 ag3 rfl rfl (vI a.Clock) rfl wz (aI DV rfl 1 rfl wz (aH 0 1 il ft sz3 ag3 rfl rfl (vI a.At) rfl wz (aL (.d (.agg (Beat_.enc (⟨a.Clock,a.At⟩:Beat_)))) wz (by kernel_rfl) (gL (([(⟨a.Clock,a.At⟩:Beat_)]:List Beat_).map Beat_.enc) Ab ez124 rfl rfl rfl rfl rfl wz ?_))))))))
      obtain ⟨H,L,b⟩:=bind_some b
      refine jr 0 il ft (i:=0) Nc Nc Gp z155 rfl (by decide) by155 (by decide) (λ_=>rfl) rfl rfl rfl L wz (λE=>aa (gV E 2 H) (af ?_))
      obtain rfl:=ae b
      exact aW E trivial rfl (aK rfl)
   ·rintro n _ Q F y z
    refine aR _ y z (au (dS (bC l I) wz rfl (aa (vI ((j+1:Nat):Int)) (af ?_))))
    obtain rfl:=ae q
    exact aZ (j+1,A,B,n) ⟨m,aV l⟩ (ls_ _) rfl (aK rfl)
 ·rintro ⟨e,c⟩ J Q F y z
  subst J
  refine aR _ y z (ai (aa (gV c 2 e) (aa (gV c 2 e) (af (fQ 0 rfl (dx 6 0 rfl rfl (dx 7 0 rfl rfl (dx 40 0 rfl rfl ?_))))))))
  obtain rfl:=ae o
  exact aC (aO [(vL Beat_.enc e)] ⟨rfl,trivial⟩)
theorem wF {f:(List Beat_)} {b:Int} {r:Int×Int} (a:gZ f b=some r) :
  FnM Tryz.prog 58 [(vL Beat_.enc f),(vI b)] [] (.tup [(vI r.1),(vI r.2)]) []:=by
 refine FnM.of_wH ⟨Tryz.prog,108,[],[]⟩ rfl Tryz.func58 rfl rfl (lb_ rfl) (by kernel_rfl) ?_
 unfold gZ at a
 refine ai (aa (vI 0) (aa (vI 0) (af (ak (ai (aa (vL Beat_.enc f) (bQ Re rfl wz (aa (vB ((f.length:Int)==0)) (af ?_)))))))))
 rcases aj a with⟨B,a⟩|⟨B,a⟩
 ·refine aA rfl B (ai (aa (vI 0) (aa (vI 8) (af ?_))))
  obtain rfl:=ae a
  exact aC (aO [(vI 0),(vI 8)] ⟨rfl,⟨rfl,trivial⟩⟩)
 ·refine ay rfl B (ax (ai (aa (vI 0) (af (ak ?_)))))
  obtain ⟨Á,H,a⟩:=bind_some a
  obtain ⟨À,H⟩:=bW H
  refine dY (λ(c:Int)=>[(0,(vL Beat_.enc f)),(1,(vI b)),(6,(vI c))]) (λ(c:Int)=>[]) (λ(v:Nat)=>(λ(c:Int)=>[(0,(vL Beat_.enc f)),(1,(vI b)),(6,(vI c))])) (λs=>gu f b s) Á À 0 H rfl (aK rfl) ?_ ?_
  ·rintro ⟨v,c⟩ n
   dsimp only at n
   cases v with
   | zero=>cases n
   | succ v =>
    obtain ⟨Ç,k,n⟩:=bind_some n
    unfold gu at k
    refine ak (ak ?_)
    obtain ⟨Å,m,k⟩:=bind_some k
    refine aU [(0,(vL Beat_.enc f)),(1,(vI b)),(6,(vI c)),(25,(vB Å))] [] ?_ ?_
    ·refine au (aa (vI c) (aa (vL Beat_.enc f) (bQ Re rfl wz (aa (vB (decide (c<(f.length:Int)))) ?_))))
     rcases aj m with⟨w,m⟩|⟨w,m⟩
     ·refine aB rfl w wz (aL (vL Beat_.enc f) wa rfl (aL (vI c) wa rfl ?_))
      obtain ⟨u,Q,m⟩:=bind_some m
      refine dI Ab rfl rfl Q rfl wa (lQ tZ rfl [.int .i64 u.f_from,.int .i64 u.f_to] rfl rfl wa (bH sz3 ag3 rfl (vI u.f_from) rfl wa (aL (vI b) wa rfl (aL (vB (decide (u.f_from<=b))) wa rfl (aa (vB (decide (u.f_from<=b))) (af ?_))))))
      obtain rfl:=ae m
      exact cu
     ·refine aB rfl w wz (ah (ah (ah (ah (ah (ah (ah (aa (vB false) (af ?_)))))))))
      obtain rfl:=ae m
      exact cu
    ·rintro ⟨⟩ _ L I q t
     refine aR _ q t ?_
     rcases aj k with⟨x,k⟩|⟨x,k⟩
     ·refine aA rfl x (ax (aQ (au (aa (vI c) (aa (vI (w64 (c+1))) (aa (vI (w64 (c+1))) (af ?_)))))))
      obtain rfl:=ae k
      exact aZ (v,(w64 (c+1))) n (ls_ _) rfl (aK rfl)
     ·refine ay rfl x (aY ?_)
      obtain rfl:=ae k
      obtain rfl:=ae n
      exact aW (c) rfl rfl (aK rfl)
  ·rintro c M L I q t
   subst M
   refine aR _ q t (ai (aa (vI 0) (af (ak (aQ (ai (aa (vI c) (aa (vB (c==0)) (aa (vB (c==0)) (af ?_))))))))))
   rcases aj a with⟨y,a⟩|⟨y,a⟩
   ·refine aA rfl y (bv (aa (vL Beat_.enc f) ?_))
    obtain ⟨l,R,a⟩:=bind_some a
    refine dI Ab rfl rfl R rfl wz (lQ vF rfl [.int .i64 l.f_to] rfl rfl wz (bH sz3 ag3 rfl (vI l.f_to) rfl wz (aa (vL Beat_.enc f) ?_)))
    obtain ⟨h,T,a⟩:=bind_some a
    refine dI Ab rfl rfl T rfl wz (lQ tZ rfl [.int .i64 h.f_from,.int .i64 h.f_to] rfl rfl wz (bH sz3 ag3 rfl (vI h.f_from) rfl wz (aa (vI b) (aa (vI (w64 (h.f_from-b))) (aa (vI (w64 (l.f_to-(w64 (h.f_from-b))))) (aa (vI (w64 (l.f_to-(w64 (h.f_from-b))))) (af (ak (ai (aa (vI (w64 (l.f_to-(w64 (h.f_from-b))))) ?_))))))))))
    obtain ⟨Â,N,a⟩:=bind_some a
    refine aG (gD N) rfl Ib rfl rfl rfl rfl wz (aa (vB (!Â)) (af ?_))
    rcases aj a with⟨z,a⟩|⟨z,a⟩
    ·refine aA rfl z (ai (aa (vI 0) (aa (vI 11) (af ?_))))
     obtain rfl:=ae a
     exact aC (aO [(vI 0),(vI 11)] ⟨rfl,⟨rfl,trivial⟩⟩)
    ·refine ay rfl z (ax (ai (aa (vI (w64 (l.f_to-(w64 (h.f_from-b))))) (aa (vI (w64 (l.f_to-(w64 (h.f_from-b))))) (aa (vI 0) (af ?_))))))
     obtain rfl:=ae a
     exact aC (aO [(vI (w64 (l.f_to-(w64 (h.f_from-b))))),(vI 0)] ⟨rfl,⟨rfl,trivial⟩⟩)
   ·refine ay rfl y (ai (aa (vI c) (aa (vL Beat_.enc f) (bQ Re rfl wz (aa (vB (c==(f.length:Int))) (aa (vB (c==(f.length:Int))) (af ?_)))))))
    rcases aj a with⟨A,a⟩|⟨A,a⟩
    ·refine aA rfl A (bv (aa (vL Beat_.enc f) (aa (vI c) (aa (vI (w64 (c-1))) ?_))))
     obtain ⟨i,U,a⟩:=bind_some a
     refine dI Ab rfl rfl U rfl wz (lQ vF rfl [.int .i64 i.f_to] rfl rfl wz (bH sz3 ag3 rfl (vI i.f_to) rfl wz (aa (vI b) (aa (vI (w64 (i.f_to+b))) (aa (vL Beat_.enc f) (aa (vI c) (aa (vI (w64 (c-1))) ?_)))))))
     obtain ⟨j,W,a⟩:=bind_some a
     refine dI Ab rfl rfl W rfl wz (lQ tZ rfl [.int .i64 j.f_from,.int .i64 j.f_to] rfl rfl wz (bH sz3 ag3 rfl (vI j.f_from) rfl wz (aa (vI (w64 ((w64 (i.f_to+b))-j.f_from))) (aa (vI (w64 ((w64 (i.f_to+b))-j.f_from))) (af (ak (ai (aa (vI (w64 ((w64 (i.f_to+b))-j.f_from))) ?_))))))))
     obtain ⟨Ã,O,a⟩:=bind_some a
     refine aG (gD O) rfl Ib rfl rfl rfl rfl wz (aa (vB (!Ã)) (af ?_))
     rcases aj a with⟨C,a⟩|⟨C,a⟩
     ·refine aA rfl C (ai (aa (vI 0) (aa (vI 11) (af (aR (H0:=([]:Hp)) ([(4,(vI 0)),(5,(vI 11))]:SL_) (by kernel_rfl) (Br (by kernel_rfl)) ?_)))))
      obtain rfl:=ae a
      exact aC (aO [(vI 0),(vI 11)] ⟨rfl,⟨rfl,trivial⟩⟩)
     ·refine ay rfl C (ax (ai (aa (vI (w64 ((w64 (i.f_to+b))-j.f_from))) (aa (vI (w64 ((w64 (i.f_to+b))-j.f_from))) (aa (vI 0) (af (aR (H0:=([]:Hp)) ([(4,(vI (w64 ((w64 (i.f_to+b))-j.f_from)))),(5,(vI 0))]:SL_) (by kernel_rfl) (Br (by kernel_rfl)) ?_)))))))
      obtain rfl:=ae a
      exact aC (aO [(vI (w64 ((w64 (i.f_to+b))-j.f_from))),(vI 0)] ⟨rfl,⟨rfl,trivial⟩⟩)
    ·refine ay rfl A (ak (bv (aa (vL Beat_.enc f) (aa (vI c) (aa (vI (w64 (c-1))) ?_)))))
     obtain ⟨e,X,a⟩:=bind_some a
     refine dI Ab rfl rfl X rfl wz (bH Gp ag155 rfl (.d (.agg (Beat_.enc e))) rfl wz (aa (vL Beat_.enc f) (aa (vI c) ?_)))
     obtain ⟨g,Y,a⟩:=bind_some a
     refine dI Ab rfl rfl Y rfl wz (bH Gp ag155 rfl (.d (.agg (Beat_.enc g))) rfl wz (dz 9 (.inr (by kernel_rfl)) z155 rfl wz (λJ=>dz 10 (.inr (by kernel_rfl)) z155 rfl wz (λK=>gp 11 (.inr (by kernel_rfl)) (λ_ _ ag=>⟨.inr (.inr (by kernel_rfl)),⟨.inr (.inr (by kernel_rfl)),trivial⟩⟩) 0 Gp rfl rfl [(vI e.f_from),(vI e.f_to)] rfl wz (gp 12 (.inr (by kernel_rfl)) (λ_ _ ag=>⟨.inr (.inr (by kernel_rfl)),⟨.inr (.inr (by kernel_rfl)),⟨.inr (.inr (by kernel_rfl)),trivial⟩⟩⟩) 1 Gp rfl rfl [(vI g.f_from),(vI g.f_to)] rfl wz (af (ak (ak ?_))))))))
     obtain ⟨Æ,p,a⟩:=bind_some a
     refine aU [(1,(vI b)),(8,(.ref J 0 0)),(9,(.ref K 0 0)),(50,(vB Æ))] [(J,some (.cells 2 [(vI e.f_from),(vI e.f_to)])),(K,some (.cells 2 [(vI g.f_from),(vI g.f_to)]))] ?_ ?_
     ·refine au (aI tZ rfl 0 rfl wz (aH 0 1 il ft sz3 ag3 rfl rfl (vI g.f_from) rfl wz (aI tZ rfl 0 rfl wz (aH 0 0 il ft sz3 ag3 rfl rfl (vI e.f_from) rfl wz (aa (vI (w64 (g.f_from-e.f_from))) (aa (vB (decide ((w64 (g.f_from-e.f_from))>2592000000))) ?_))))))
      rcases aj p with⟨E,p⟩|⟨E,p⟩
      ·refine aB rfl E wz (ah (ah (ah (ah (ah (ah (aa (vB true) (af ?_))))))))
       obtain rfl:=ae p
       exact cu
      ·refine aB rfl E wz (aI vF rfl 1 rfl wa (aH 0 1 il ft sz3 ag3 rfl rfl (vI g.f_to) rfl wa (aI vF rfl 1 rfl wa (aH 0 0 il ft sz3 ag3 rfl rfl (vI e.f_to) rfl wa (aL (vI (w64 (g.f_to-e.f_to))) wa rfl (aL (vB (decide ((w64 (g.f_to-e.f_to))>2592000000))) wa rfl (aa (vB (decide ((w64 (g.f_to-e.f_to))>2592000000))) (af ?_))))))))
       obtain rfl:=ae p
       exact cu
     ·rintro ⟨⟩ _ L I q t
      refine aR _ q t ?_
      rcases aj a with⟨F,a⟩|⟨F,a⟩
      ·refine aA rfl F (ai (aa (vI 0) (aa (vI 2) (af ?_))))
       obtain rfl:=ae a
       exact aC (aO [(vI 0),(vI 2)] ⟨rfl,⟨rfl,trivial⟩⟩)
      ·refine ay rfl F (ax (bv (aI vF rfl 1 rfl wz (aH 1 0 (.inr (by kernel_rfl)) (λ_ _ ag=>trivial) sz3 ag3 rfl rfl (vI e.f_to) rfl wz (aa (vI b) (aI tZ rfl 0 rfl wz (aH 4 0 (.inr (by kernel_rfl)) (λ_ _ ag=>⟨.inl ⟨rfl,rfl⟩,trivial⟩) sz3 ag3 rfl rfl (vI e.f_from) rfl wz (aa (vI (w64 (b-e.f_from))) (aI vF rfl 1 rfl wz (aH 7 1 (.inr (by kernel_rfl)) (λ_ _ ag=>⟨.inl ⟨rfl,rfl⟩,⟨.inl ⟨rfl,rfl⟩,trivial⟩⟩) sz3 ag3 rfl rfl (vI g.f_to) rfl wz (aI vF rfl 1 rfl wz (aH 9 0 (.inr (by kernel_rfl)) (λ_ _ ag=>⟨.inl ⟨rfl,rfl⟩,⟨.inl ⟨rfl,rfl⟩,⟨.inl ⟨rfl,rfl⟩,trivial⟩⟩⟩) sz3 ag3 rfl rfl (vI e.f_to) rfl wz (aa (vI (w64 (g.f_to-e.f_to))) (aa (vI (w64 ((w64 (b-e.f_from))*(w64 (g.f_to-e.f_to))))) (aI tZ rfl 0 rfl wz (aH 13 1 (.inr (by kernel_rfl)) (λ_ _ ag=>⟨.inl ⟨rfl,rfl⟩,⟨.inl ⟨rfl,rfl⟩,⟨.inl ⟨rfl,rfl⟩,⟨.inl ⟨rfl,rfl⟩,trivial⟩⟩⟩⟩) sz3 ag3 rfl rfl (vI g.f_from) rfl wz (aI tZ rfl 0 rfl wz (aH 15 0 (.inr (by kernel_rfl)) (λ_ _ ag=>⟨.inl ⟨rfl,rfl⟩,⟨.inl ⟨rfl,rfl⟩,⟨.inl ⟨rfl,rfl⟩,⟨.inl ⟨rfl,rfl⟩,⟨.inl ⟨rfl,rfl⟩,trivial⟩⟩⟩⟩⟩) sz3 ag3 rfl rfl (vI e.f_from) rfl wz (aa (vI (w64 (g.f_from-e.f_from))) ?_)))))))))))))))))))
       obtain ⟨o,Z,a⟩:=bind_some a
       refine Oh rfl rfl Z wz (aa (vI (w64 (e.f_to+o))) (aa (vI (w64 (e.f_to+o))) (af (ak (ai (aa (vI (w64 (e.f_to+o))) ?_))))))
       obtain ⟨Ä,P,a⟩:=bind_some a
       refine aG (gD P) rfl Ib rfl rfl rfl rfl wz (aa (vB (!Ä)) (af ?_))
       rcases aj a with⟨G,a⟩|⟨G,a⟩
       ·refine aA rfl G (ai (aa (vI 0) (aa (vI 11) (af ?_))))
        obtain rfl:=ae a
        exact aC (aO [(vI 0),(vI 11)] ⟨rfl,⟨rfl,trivial⟩⟩)
       ·refine ay rfl G (ax (ai (aa (vI (w64 (e.f_to+o))) (aa (vI (w64 (e.f_to+o))) (aa (vI 0) (af ?_))))))
        obtain rfl:=ae a
        exact aC (aO [(vI (w64 (e.f_to+o))),(vI 0)] ⟨rfl,⟨rfl,trivial⟩⟩)
theorem EZ {d:(List Beat)} {f:ByteArray} {e:Int} {g:Bool} {r:Int×Int} (a:qw d f e g=some r) :
  FnM Tryz.prog 45 [(vL Beat.enc d),(vS f),(vI e),(vB g)] [] (.tup [(vI r.1),(vI r.2)]) []:=by
 refine FnM.of_wH ⟨Tryz.prog,30,[],[]⟩ rfl Tryz.func45 rfl rfl (lb_ rfl) (by kernel_rfl) ?_
 unfold qw at a
 refine ai (aa (vI 0) (aa (vI 0) (af (ak (ai (aa (vL Beat.enc d) ?_))))))
 obtain ⟨c,n,a⟩:=bind_some a
 refine aG (rq n) rfl hb30 rfl rfl rfl rfl wz (aa (vI c) (af (ai (aa (vI c) (aa (vB (c != 0)) (af ?_))))))
 rcases aj a with⟨j,a⟩|⟨j,a⟩
 ·refine aA rfl j (ai (aa (vI c) (aa (vI 0) (aa (vI c) (af ?_)))))
  obtain rfl:=ae a
  exact aC (aO [(vI 0),(vI c)] ⟨rfl,⟨rfl,trivial⟩⟩)
 ·refine ay rfl j (ax (ak (ai (aa (vS f) ?_))))
  obtain ⟨q,o,a⟩:=bind_some a
  refine aG (gy o) rfl CY rfl rfl rfl rfl wz (aa (vB (!q)) (af ?_))
  rcases aj a with⟨h,a⟩|⟨h,a⟩
  ·refine aA rfl h (ai (aa (vI 0) (aa (vI 5) (af ?_))))
   obtain rfl:=ae a
   exact aC (aO [(vI 0),(vI 5)] ⟨rfl,⟨rfl,trivial⟩⟩)
  ·refine ay rfl h (ax (ak (ai (aa (vI e) ?_))))
   obtain ⟨p,k,a⟩:=bind_some a
   refine aG (gD k) rfl Ib rfl rfl rfl rfl wz (aa (vB (!p)) (af ?_))
   rcases aj a with⟨i,a⟩|⟨i,a⟩
   ·refine aA rfl i (ai (aa (vI 0) (aa (vI 1) (af ?_))))
    obtain rfl:=ae a
    exact aC (aO [(vI 0),(vI 1)] ⟨rfl,⟨rfl,trivial⟩⟩)
   ·refine ay rfl i (ax (ai (aa (vL Beat.enc d) (aa (vS f) (aa (vB g) ?_)))))
    obtain ⟨s,l,a⟩:=bind_some a
    refine aG (uJ l) rfl hb57 rfl rfl rfl rfl wz (aa (vI e) ?_)
    obtain ⟨b,m,a⟩:=bind_some a
    refine aG (wF m) rfl hb58 rfl rfl rfl rfl wz (aa (vI b.1) (aa (vI b.2) (aa (vI b.1) (aa (vI b.2) (af ?_)))))
    obtain rfl:=ae a
    exact aC (aO [(vI b.1),(vI b.2)] ⟨rfl,⟨rfl,trivial⟩⟩)
theorem Fu {d:(List Beat)} {e:ByteArray} {c:Int} {r:Int×Int} (b:qx d e c=some r) :
  FnM Tryz.prog 23 [(vL Beat.enc d),(vS e),(vI c)] [] (.tup [(vI r.1),(vI r.2)]) []:=by
 refine FnM.of_wH ⟨Tryz.prog,14,[],[]⟩ rfl Tryz.func23 rfl rfl (lb_ rfl) (by kernel_rfl) ?_
 unfold qx at b
 refine ai (aa (vI 0) (aa (vI 0) (af (ai (aa (vL Beat.enc d) (aa (vS e) (aa (vI c) ?_)))))))
 obtain ⟨a,f,b⟩:=bind_some b
 refine aG (EZ f) rfl hb45 rfl rfl rfl rfl wz (aa (vI a.1) (aa (vI a.2) (aa (vI a.1) (aa (vI a.2) (af ?_)))))
 obtain rfl:=ae b
 exact aC (aO [(vI a.1),(vI a.2)] ⟨rfl,⟨rfl,trivial⟩⟩)
theorem H9 {a:Int} {r:Bool} (c:Bn a=some r) :
  FnM Tryz.prog 129 [(vI a)] [] (vB r) []:=by
 refine FnM.of_wH ⟨Tryz.prog,9,[],[]⟩ rfl Tryz.func129 rfl rfl (lb_ rfl) (by kernel_rfl) ?_
 unfold Bn at c
 refine ai (aa (vB false) (af (ak ?_)))
 obtain ⟨e,b,c⟩:=bind_some c
 refine aU [(2,(vB e))] [] ?_ ?_
 ·refine au (aa (vI a) (aa (vB (decide (a>=0))) ?_))
  rcases aj b with⟨d,b⟩|⟨d,b⟩
  ·refine aB rfl d wz (aL (vI a) wa rfl (aL (vB (decide (a<=4000))) wa rfl (aa (vB (decide (a<=4000))) (aa (vB (decide (a<=4000))) (af ?_)))))
   obtain rfl:=ae b
   exact cu
  ·refine aB rfl d wz (ah (ah (aa (vB false) (aa (vB false) (af ?_)))))
   obtain rfl:=ae b
   exact cu
 ·rintro ⟨⟩ _ i h f g
  refine aR _ f g ?_
  obtain rfl:=ae c
  exact aC (aO [(vB e)] ⟨rfl,trivial⟩)
theorem uX {a:(List Int)} {r:Int} (d:jP a=some r) :
  FnM Tryz.prog 102 [(vL eI a)] [] (vI r) []:=by
 refine FnM.of_wH ⟨Tryz.prog,30,[],[]⟩ rfl Tryz.func102 rfl rfl (lb_ rfl) (by kernel_rfl) ?_
 unfold jP at d
 refine ai (aa (vI 0) (af (ak (ai (aa (vL eI a) (bQ ug rfl wz (aa (vB (decide ((a.length:Int)>100))) (af ?_))))))))
 rcases aj d with⟨m,d⟩|⟨m,d⟩
 ·refine aA rfl m (ai (aa (vI 2) (af ?_)))
  obtain rfl:=ae d
  exact aC (aO [(vI 2)] ⟨rfl,trivial⟩)
 ·refine ay rfl m (ax (ak (ai (aa (vL eI a) (bQ ug rfl wz (aa (vI 0) (af ?_)))))))
  obtain ⟨B,o,d⟩:=bind_some d
  obtain ⟨w,o⟩:=bn o
  refine dB (λ(i:Unit)=>[]) (λ(i:Unit)=>[]) (λ(c:Nat)=>(λ(i:Unit)=>[(0,(vL eI a)),(8,(vL eI a)),(9,(vI (a.length:Int))),(10,(vI (c:Int)))])) (λk x s=>kI a k x s) B a () o rfl (aK rfl) ?_ ?_
  ·rintro ⟨c,t,i⟩ ⟨e,g⟩
   dsimp only at e g
   cases t with
   | nil =>
    obtain rfl:=ae e
    refine ai (aa (vB (decide ((c:Int)<(a.length:Int)))) (af ?_))
    refine ak (ay rfl (drop_nil g) (aY ?_))
    exact aW (i) rfl rfl (aK rfl)
   | cons h t =>
    obtain ⟨G,b,e⟩:=bind_some e
    refine ai (aa (vB (decide ((c:Int)<(a.length:Int)))) (af ?_))
    refine ak (aA rfl (bE g) (ax ?_))
    unfold kI at b
    refine ak (aQ (ai (aa (vI (c:Int)) (dI ic rfl rfl (bN g) rfl wz (bH sz3 ag3 rfl (vI h) rfl wz (aa (vI (c:Int)) (aa (vI h) (af (ak (ai (aa (vI h) ?_)))))))))))
    obtain ⟨C,z,b⟩:=bind_some b
    refine aG (H9 z) rfl hb129 rfl rfl rfl rfl wz (aa (vB (!C)) (af ?_))
    rcases aj b with⟨j,b⟩|⟨j,b⟩
    ·refine aA rfl j (ai (aa (vI 1) (af ?_)))
     obtain rfl:=ae b
     obtain rfl:=ae e
     obtain rfl:=ae d
     exact aC (aO [(vI 1)] ⟨rfl,trivial⟩)
    ·refine ay rfl j (ax (ak ?_))
     obtain ⟨F,f,b⟩:=bind_some b
     refine aU [(0,(vL eI a)),(8,(vL eI a)),(9,(vI (a.length:Int))),(10,(vI (c:Int))),(28,(vB F))] [] ?_ ?_
     ·refine au (aa (vI (c:Int)) (aa (vB (decide ((c:Int)>0))) ?_))
      rcases aj f with⟨l,f⟩|⟨l,f⟩
      ·refine aB rfl l wz (aL (vI h) wa rfl (aL (vL eI a) wa rfl (aL (vI (c:Int)) wa rfl (aL (vI (w64 ((c:Int)-1))) wa rfl ?_))))
       obtain ⟨u,A,f⟩:=bind_some f
       refine dI ic rfl rfl A rfl wa (bH sz3 ag3 rfl (vI u) rfl wa (aL (vB (decide (h<=u))) wa rfl (aa (vB (decide (h<=u))) (af ?_))))
       obtain rfl:=ae f
       exact cu
      ·refine aB rfl l wz (ah (ah (ah (ah (ah (ah (ah (aa (vB false) (af ?_)))))))))
       obtain rfl:=ae f
       exact cu
     ·rintro ⟨⟩ _ E v p q
      refine aR _ p q ?_
      rcases aj b with⟨n,b⟩|⟨n,b⟩
      ·refine aA rfl n (ai (aa (vI 7) (af ?_)))
       obtain rfl:=ae b
       obtain rfl:=ae e
       obtain rfl:=ae d
       exact aC (aO [(vI 7)] ⟨rfl,trivial⟩)
      ·refine ay rfl n (ax (au (dS (bC g w) wz rfl (aa (vI ((c+1:Nat):Int)) (af ?_)))))
       obtain rfl:=ae b
       exact aZ (c+1,t,()) ⟨e,aV g⟩ (ls_ _) rfl (aK rfl)
  ·rintro i y E v p q
   subst y
   refine aR _ p q (ai (aa (vI 0) (af ?_)))
   obtain rfl:=ae d
   exact aC (aO [(vI 0)] ⟨rfl,trivial⟩)
theorem wR {b:(List ByteArray)} {r:Int} (a:jm b=some r) :
  FnM Tryz.prog 103 [(vL eS b)] [] (vI r) []:=by
 refine FnM.of_wH ⟨Tryz.prog,8,[],[]⟩ rfl Tryz.func103 rfl rfl (lb_ rfl) (by kernel_rfl) ?_
 unfold jm at a
 refine ai (aa (vI 0) (af (ak (ai (aa (vL eS b) (bQ Et rfl wz (aa (vB (decide ((b.length:Int)>20))) (af ?_))))))))
 rcases aj a with⟨c,a⟩|⟨c,a⟩
 ·refine aA rfl c (ai (aa (vI 2) (af ?_)))
  obtain rfl:=ae a
  exact aC (aO [(vI 2)] ⟨rfl,trivial⟩)
 ·refine ay rfl c (ax (ai (aa (vL eS b) ?_)))
  obtain ⟨d,e,a⟩:=bind_some a
  refine aG (rX e) rfl hb97 rfl rfl rfl rfl wz (aa (vI d) (af ?_))
  obtain rfl:=ae a
  exact aC (aO [(vI d)] ⟨rfl,trivial⟩)
theorem vH {c:Entry} {r:Int} (a:jb c=some r) :
  FnM Tryz.prog 75 [(.d (.agg (Entry.enc c)))] [] (vI r) []:=by
 refine FnM.of_wH ⟨Tryz.prog,61,[],[]⟩ rfl Tryz.func75 rfl rfl (lb_ rfl) (by kernel_rfl) ?_
 unfold jb at a
 refine ai (jU 0 (.inl rfl) (Entry.v c) rfl rfl wz (λg=>aa (vI 0) (af (ak (ak ?_)))))
 obtain ⟨X,f,a⟩:=bind_some a
 refine aU [(1,(.ref g 0 0)),(13,(vB X))] [(g,some (.cells 13 (Entry.v c)))] ?_ ?_
 ·refine au (aI LB rfl 0 rfl wz (aH 0 0 il ft sz9 ag9 rfl rfl (vS c.Key) rfl wz ?_))
  obtain ⟨T,L,f⟩:=bind_some f
  refine aG (gy L) rfl CY rfl rfl rfl rfl wz (aa (vB (!T)) ?_)
  rcases aj f with⟨w,f⟩|⟨w,f⟩
  ·refine aB rfl w wz (ah (ah (ah (ah (aa (vB true) (af ?_))))))
   obtain rfl:=ae f
   exact cu
  ·refine aB rfl w wz (aI pl87_1 rfl 1 rfl wa (aH 0 0 il ft sz9 ag9 rfl rfl (vS c.Item) rfl wa ?_))
   obtain ⟨z,M,f⟩:=bind_some f
   refine aG (gy M) rfl CY rfl rfl rfl rfl wa (aL (vB (!z)) wa rfl (aa (vB (!z)) (af ?_)))
   obtain rfl:=ae f
   exact cu
 ·rintro ⟨⟩ _ A x i j
  refine aR _ i j ?_
  rcases aj a with⟨k,a⟩|⟨k,a⟩
  ·refine aA rfl k (ai (aa (vI 5) (af ?_)))
   obtain rfl:=ae a
   exact aC (aO [(vI 5)] ⟨rfl,trivial⟩)
  ·refine ay rfl k (ax (ak (ak ?_)))
   obtain ⟨U,b,a⟩:=bind_some a
   refine aU [(1,(.ref g 0 0)),(38,(vB U))] [(g,some (.cells 13 (Entry.v c)))] ?_ ?_
   ·refine au (aI pl87_2 rfl 2 rfl wz (aH 0 0 il ft sz3 ag3 rfl rfl (vI c.Version) rfl wz ?_))
    obtain ⟨Y,B,b⟩:=bind_some b
    refine aG (bA B) rfl rR rfl rfl rfl rfl wz ?_
    rcases aj b with⟨l,b⟩|⟨l,b⟩
    ·refine aB rfl l wz (ah (ah (ah (ah (ah (aa (vB true) (aa (vB true) (ah (ah (ah (aa (vB true) (aa (vB true) (ah (ah (ah (aa (vB true) (aa (vB true) (ah (ah (ah (aa (vB true) (af ?_))))))))))))))))))))))
     obtain rfl:=ae b
     exact cu
    ·refine aB rfl l wz (aI H8 rfl 3 rfl wa (aH 0 0 il ft sz3 ag3 rfl rfl (vI c.First) rfl wa (aI Iw rfl 4 rfl wa (aH 0 0 il ft sz3 ag3 rfl rfl (vI c.Last) rfl wa ?_))))
     obtain ⟨N,C,b⟩:=bind_some b
     refine aG (bA C) rfl rR rfl rfl rfl rfl wa (aa (vB N) ?_)
     rcases aj b with⟨m,b⟩|⟨m,b⟩
     ·refine aB rfl m wz (ah (ah (ah (aa (vB true) (aa (vB true) (ah (ah (ah (aa (vB true) (aa (vB true) (ah (ah (ah (aa (vB true) (af ?_)))))))))))))))
      obtain rfl:=ae b
      exact cu
     ·refine aB rfl m wz (aI Iw rfl 4 rfl wa (aH 0 0 il ft sz3 ag3 rfl rfl (vI c.Last) rfl wa (aL (vB (decide (c.Last>4000))) wa rfl (aa (vB (decide (c.Last>4000))) ?_))))
      rcases aj b with⟨n,b⟩|⟨n,b⟩
      ·refine aB rfl n wz (ah (ah (ah (aa (vB true) (aa (vB true) (ah (ah (ah (aa (vB true) (af ?_))))))))))
       obtain rfl:=ae b
       exact cu
      ·refine aB rfl n wz (aI R4 rfl 5 rfl wa (aH 0 0 il ft sz3 ag3 rfl rfl (vI c.Every) rfl wa ?_))
       obtain ⟨O,E,b⟩:=bind_some b
       refine aG (bA E) rfl rR rfl rfl rfl rfl wa (aa (vB O) ?_)
       rcases aj b with⟨o,b⟩|⟨o,b⟩
       ·refine aB rfl o wz (ah (ah (ah (aa (vB true) (af ?_)))))
        obtain rfl:=ae b
        exact cu
       ·refine aB rfl o wz (aI RU rfl 6 rfl wa (aH 0 0 il ft sz3 ag3 rfl rfl (vI c.Days) rfl wa ?_))
        obtain ⟨P,F,b⟩:=bind_some b
        refine aG (bA F) rfl rR rfl rfl rfl rfl wa (aa (vB P) (af ?_))
        obtain rfl:=ae b
        exact cu
   ·rintro ⟨⟩ _ A x i j
    refine aR _ i j ?_
    rcases aj a with⟨p,a⟩|⟨p,a⟩
    ·refine aA rfl p (ai (aa (vI 1) (af ?_)))
     obtain rfl:=ae a
     exact aC (aO [(vI 1)] ⟨rfl,trivial⟩)
    ·refine ay rfl p (ax (ak (ai (aI Qb rfl 7 rfl wz (aH 0 0 il ft uw wo rfl rfl (vL eI c.Except) rfl wz ?_)))))
     obtain ⟨h,G,a⟩:=bind_some a
     refine aG (uX G) rfl hb102 rfl rfl rfl rfl wz (aa (vI h) (af (ai (aa (vI h) (aa (vB (h != 0)) (af ?_))))))
     rcases aj a with⟨q,a⟩|⟨q,a⟩
     ·refine aA rfl q (ai (aa (vI h) (aa (vI h) (af ?_))))
      obtain rfl:=ae a
      exact aC (aO [(vI h)] ⟨rfl,trivial⟩)
     ·refine ay rfl q (ax (ak (ak ?_)))
      obtain ⟨W,e,a⟩:=bind_some a
      refine aU [(1,(.ref g 0 0)),(57,(vB W))] [(g,some (.cells 13 (Entry.v c)))] ?_ ?_
      ·refine au (aI LZ rfl 8 rfl wz (aH 0 0 il ft sz3 ag3 rfl rfl (vI c.From) rfl wz ?_))
       obtain ⟨Z,H,e⟩:=bind_some e
       refine aG (bA H) rfl rR rfl rfl rfl rfl wz ?_
       rcases aj e with⟨s,e⟩|⟨s,e⟩
       ·refine aB rfl s wz (ah (ah (ah (aa (vB true) (aa (vB true) (ah (ah (ah (aa (vB true) (af ?_))))))))))
        obtain rfl:=ae e
        exact cu
       ·refine aB rfl s wz (aI Ra rfl 9 rfl wa (aH 0 0 il ft sz3 ag3 rfl rfl (vI c.To) rfl wa ?_))
        obtain ⟨Q,I,e⟩:=bind_some e
        refine aG (bA I) rfl rR rfl rfl rfl rfl wa (aa (vB Q) ?_)
        rcases aj e with⟨t,e⟩|⟨t,e⟩
        ·refine aB rfl t wz (ah (ah (ah (aa (vB true) (af ?_)))))
         obtain rfl:=ae e
         exact cu
        ·refine aB rfl t wz (aI pl87_10 rfl 10 rfl wa (aH 0 0 il ft sz3 ag3 rfl rfl (vI c.Prio) rfl wa ?_))
         obtain ⟨R,J,e⟩:=bind_some e
         refine aG (bA J) rfl rR rfl rfl rfl rfl wa (aa (vB R) (af ?_))
         obtain rfl:=ae e
         exact cu
      ·rintro ⟨⟩ _ A x i j
       refine aR _ i j ?_
       rcases aj a with⟨u,a⟩|⟨u,a⟩
       ·refine aA rfl u (ai (aa (vI 1) (af ?_)))
        obtain rfl:=ae a
        exact aC (aO [(vI 1)] ⟨rfl,trivial⟩)
       ·refine ay rfl u (ax (ai (aI pl87_11 rfl 11 rfl wz (aH 0 0 il ft Jn M6 rfl rfl (vL eS c.Tags) rfl wz ?_))))
        obtain ⟨y,K,a⟩:=bind_some a
        refine aG (wR K) rfl hb103 rfl rfl rfl rfl wz (aa (vI y) (af ?_))
        obtain rfl:=ae a
        exact aC (aO [(vI y)] ⟨rfl,trivial⟩)
theorem uz {a:(List Entry)} {r:Int} (e:iw a=some r) :
  FnM Tryz.prog 46 [(vL Entry.enc a)] [] (vI r) []:=by
 refine FnM.of_wH ⟨Tryz.prog,35,[],[]⟩ rfl Tryz.func46 rfl rfl (lb_ rfl) (by kernel_rfl) ?_
 unfold iw at e
 refine ai (aa (vI 0) (af (ak (ai (aa (vL Entry.enc a) (bQ un114 rfl wz (aa (vB (decide ((a.length:Int)>200))) (af ?_))))))))
 rcases aj e with⟨p,e⟩|⟨p,e⟩
 ·refine aA rfl p (ai (aa (vI 2) (af ?_)))
  obtain rfl:=ae e
  exact aC (aO [(vI 2)] ⟨rfl,trivial⟩)
 ·refine ay rfl p (ax (ak (ai (aa (vL Entry.enc a) (bQ un114 rfl wz (aa (vI 0) (af ?_)))))))
  obtain ⟨G,t,e⟩:=bind_some e
  obtain ⟨A,t⟩:=bn t
  refine dB (λ(l:Unit)=>[]) (λ(l:Unit)=>[]) (λ(c:Nat)=>(λ(l:Unit)=>[(0,(vL Entry.enc a)),(9,(vL Entry.enc a)),(10,(vI (a.length:Int))),(11,(vI (c:Int)))])) (λk x s=>gq a k x s) G a () t rfl (aK rfl) ?_ ?_
  ·rintro ⟨c,y,l⟩ ⟨f,i⟩
   dsimp only at f i
   cases y with
   | nil =>
    obtain rfl:=ae f
    refine ai (aa (vB (decide ((c:Int)<(a.length:Int)))) (af ?_))
    refine ak (ay rfl (drop_nil i) (aY ?_))
    exact aW (l) rfl rfl (aK rfl)
   | cons h y =>
    obtain ⟨J,b,f⟩:=bind_some f
    refine ai (aa (vB (decide ((c:Int)<(a.length:Int)))) (af ?_))
    refine ak (aA rfl (bE i) (ax ?_))
    unfold gq at b
    refine ak (aQ (ai (aa (vI (c:Int)) (dI PO rfl rfl (bN i) rfl wz (bH LC OB rfl (.d (.agg (Entry.enc h))) rfl wz (dz 0 (.inl rfl) z87 rfl wz (λF=>aa (vI (c:Int)) (gp 0 il ft 0 LC rfl rfl (Entry.v h) rfl wz (af (ak (ai (aH 0 0 il ft LC OB rfl rfl (.d (.agg (Entry.enc h))) rfl wz ?_))))))))))))
    obtain ⟨j,C,b⟩:=bind_some b
    refine aG (vH C) rfl hb75 rfl rfl rfl rfl wz (aa (vI j) (af (ai (aa (vI j) (aa (vB (j != 0)) (af ?_))))))
    rcases aj b with⟨n,b⟩|⟨n,b⟩
    ·refine aA rfl n (ai (aa (vI j) (aa (vI j) (af ?_))))
     obtain rfl:=ae b
     obtain rfl:=ae f
     obtain rfl:=ae e
     exact aC (aO [(vI j)] ⟨rfl,trivial⟩)
    ·refine ay rfl n (ax (ak ?_))
     obtain ⟨I,g,b⟩:=bind_some b
     refine aU [(0,(vL Entry.enc a)),(9,(vL Entry.enc a)),(10,(vI (a.length:Int))),(11,(vI (c:Int))),(33,(vB I))] [(F,some (.cells 13 (Entry.v h)))] ?_ ?_
     ·refine bv (aa (vI (c:Int)) (aa (vB (decide ((c:Int)>0))) ?_))
      rcases aj g with⟨o,g⟩|⟨o,g⟩
      ·refine aB rfl o wz (aI LB rfl 0 rfl wa (aH 4 0 (.inr (by kernel_rfl)) (λ_ _ ag=>trivial) sz9 ag9 rfl rfl (vS h.Key) rfl wa (aL (vL Entry.enc a) wa rfl (aL (vI (c:Int)) wa rfl (aL (vI (w64 ((c:Int)-1))) wa rfl ?_)))))
       obtain ⟨m,E,g⟩:=bind_some g
       refine dI PO rfl rfl E rfl wa (lQ LB rfl (Entry.enc m) rfl rfl wa (bH sz9 ag9 rfl (vS m.Key) rfl wa (aL (vB (sLe h.Key m.Key)) wa rfl (aa (vB (sLe h.Key m.Key)) (af ?_)))))
       obtain rfl:=ae g
       exact cu
      ·refine aB rfl o wz (ah (ah (ah (ah (ah (ah (ah (ah (ah (aa (vB false) (af ?_)))))))))))
       obtain rfl:=ae g
       exact cu
     ·rintro ⟨⟩ _ H z u w
      refine aR _ u w ?_
      rcases aj b with⟨q,b⟩|⟨q,b⟩
      ·refine aA rfl q (ai (aa (vI 7) (af ?_)))
       obtain rfl:=ae b
       obtain rfl:=ae f
       obtain rfl:=ae e
       exact aC (aO [(vI 7)] ⟨rfl,trivial⟩)
      ·refine ay rfl q (ax (au (dS (bC i A) wz rfl (aa (vI ((c+1:Nat):Int)) (af ?_)))))
       obtain rfl:=ae b
       exact aZ (c+1,y,()) ⟨f,aV i⟩ (ls_ _) rfl (aK rfl)
  ·rintro l B H z u w
   subst B
   refine aR _ u w (ai (aa (vI 0) (af ?_)))
   obtain rfl:=ae e
   exact aC (aO [(vI 0)] ⟨rfl,trivial⟩)
theorem uK {a:Window} {r:Int} (b:jX a=some r) :
  FnM Tryz.prog 48 [(.d (.agg (Window.enc a)))] [] (vI r) []:=by
 refine FnM.of_wH ⟨Tryz.prog,19,[],[]⟩ rfl Tryz.func48 rfl rfl (lb_ rfl) (by kernel_rfl) ?_
 unfold jX at b
 refine ai (jU 0 (.inl rfl) [(vI a.From),(vI a.To)] rfl rfl wz (λh=>aa (vI 0) (af (ak (ak ?_)))))
 obtain ⟨l,c,b⟩:=bind_some b
 refine aU [(1,(.ref h 0 0)),(12,(vB l))] [(h,some (.cells 2 [(vI a.From),(vI a.To)]))] ?_ ?_
 ·refine au (aI mg rfl 0 rfl wz (aH 0 0 il ft sz3 ag3 rfl rfl (vI a.From) rfl wz (aI mI rfl 1 rfl wz (aH 0 0 il ft sz3 ag3 rfl rfl (vI a.To) rfl wz ?_))))
  obtain ⟨n,k,c⟩:=bind_some c
  refine aG (bA k) rfl rR rfl rfl rfl rfl wz ?_
  rcases aj c with⟨e,c⟩|⟨e,c⟩
  ·refine aB rfl e wz (ah (ah (ah (aa (vB true) (af ?_)))))
   obtain rfl:=ae c
   exact cu
  ·refine aB rfl e wz (aI mI rfl 1 rfl wa (aH 0 0 il ft sz3 ag3 rfl rfl (vI a.To) rfl wa (aL (vB (decide (a.To>345686400000))) wa rfl (aa (vB (decide (a.To>345686400000))) (af ?_)))))
   obtain rfl:=ae c
   exact cu
 ·rintro ⟨⟩ _ o m i j
  refine aR _ i j ?_
  rcases aj b with⟨f,b⟩|⟨f,b⟩
  ·refine aA rfl f (ai (aa (vI 1) (af ?_)))
   obtain rfl:=ae b
   exact aC (aO [(vI 1)] ⟨rfl,trivial⟩)
  ·refine ay rfl f (ax (ak (ai (aI mI rfl 1 rfl wz (aH 0 0 il ft sz3 ag3 rfl rfl (vI a.To) rfl wz (aI mg rfl 0 rfl wz (aH 0 0 il ft sz3 ag3 rfl rfl (vI a.From) rfl wz (aa (vI (w64 (a.To-a.From))) (aa (vB (decide ((w64 (a.To-a.From))>34560000000))) (af ?_))))))))))
   rcases aj b with⟨g,b⟩|⟨g,b⟩
   ·refine aA rfl g (ai (aa (vI 2) (af ?_)))
    obtain rfl:=ae b
    exact aC (aO [(vI 2)] ⟨rfl,trivial⟩)
   ·refine ay rfl g (ax (ai (aa (vI 0) (af ?_))))
    obtain rfl:=ae b
    exact aC (aO [(vI 0)] ⟨rfl,trivial⟩)
theorem De {b:Int} {c:Int} {r:Bool} (d:cmp_Less_int b c=some r) :
  FnM Tryz.prog 92 [(vI b),(vI c)] [] (vB r) []:=by
 refine FnM.of_wH ⟨Tryz.prog,17,[],[]⟩ rfl Tryz.func92 rfl rfl (lb_ rfl) (by kernel_rfl) ?_
 unfold cmp_Less_int at d
 refine ai (aa (vB false) (af (ak ?_)))
 obtain ⟨h,a,d⟩:=bind_some d
 refine aU [(4,(vB h))] [] ?_ ?_
 ·refine au (aa (vI b) ?_)
  obtain ⟨n,k,a⟩:=bind_some a
  refine aG (mW k) rfl hb85 rfl rfl rfl rfl wz ?_
  rcases aj a with⟨f,a⟩|⟨f,a⟩
  ·refine aB rfl f wz (aL (vI c) wa rfl ?_)
   obtain ⟨g,l,a⟩:=bind_some a
   refine aG (mW l) rfl hb85 rfl rfl rfl rfl wa (aL (vB (!g)) wa rfl (aa (vB (!g)) ?_))
   rcases aj a with⟨e,a⟩|⟨e,a⟩
   ·refine aB rfl e wz (ah (ah (ah (aa (vB true) (aa (vB true) (af ?_))))))
    obtain rfl:=ae a
    exact cu
   ·refine aB rfl e wz (aL (vI b) wa rfl (aL (vI c) wa rfl (aL (vB (decide (b<c))) wa rfl (aa (vB (decide (b<c))) (aa (vB (decide (b<c))) (af ?_))))))
    obtain rfl:=ae a
    exact cu
  ·refine aB rfl f wz (ah (ah (ah (aa (vB false) (aa (vB false) (aL (vI b) wa rfl (aL (vI c) wa rfl (aL (vB (decide (b<c))) wa rfl (aa (vB (decide (b<c))) (aa (vB (decide (b<c))) (af ?_)))))))))))
   obtain rfl:=ae a
   exact cu
 ·rintro ⟨⟩ _ o m i j
  refine aR _ i j ?_
  obtain rfl:=ae d
  exact aC (aO [(vB h)] ⟨rfl,trivial⟩)
theorem ry {a:Int} {r:Bool} (b:ji a=some r) :
  FnM Tryz.prog 130 [(vI a)] [] (vB r) []:=by
 refine FnM.of_wH ⟨Tryz.prog,6,[],[]⟩ rfl Tryz.func130 rfl rfl (lb_ rfl) (by kernel_rfl) ?_
 unfold ji at b
 refine ai (aa (vB false) (af (ai (aa (vI a) (aa (vI a) (aa (vB (a != a)) (aa (vB (a != a)) (af ?_))))))))
 obtain rfl:=ae b
 exact aC (aO [(vB (a != a))] ⟨rfl,trivial⟩)
theorem pI {c:(List Int)} {f:Int} {r:Int×Bool} (h:d9 c f=some r) :
  FnM Tryz.prog 104 [(vL eI c),(vI f)] [] (.tup [(vI r.1),(vB r.2)]) []:=by
 refine FnM.of_wH ⟨Tryz.prog,54,[],[]⟩ rfl Tryz.func104 rfl rfl (lb_ rfl) (by kernel_rfl) ?_
 unfold d9 at h
 refine ai (aa (vI 0) (aa (vB false) (af (ai (aa (vL eI c) (bQ ug rfl wz (aa (vI (c.length:Int)) (af (ai (aa (vI (c.length:Int)) (aa (vI 0) (aa (vI (c.length:Int)) (af (ak ?_))))))))))))))
 obtain ⟨H,p,h⟩:=bind_some h
 obtain ⟨G,p⟩:=bW p
 refine dY (λ(a:Int×Int)=>[(0,(vL eI c)),(1,(vI f)),(6,(vI (c.length:Int))),(7,(vI a.1))]) (λ(a:Int×Int)=>[]) (λ(i:Nat)=>(λ(a:Int×Int)=>[(0,(vL eI c)),(1,(vI f)),(6,(vI (c.length:Int))),(7,(vI a.1)),(8,(vI a.2))])) (λs=>fe c f s) H G (0,(c.length:Int)) p rfl (aK rfl) ?_ ?_
 ·rintro ⟨i,a⟩ g
  dsimp only at g
  cases i with
  | zero=>cases g
  | succ i =>
   obtain ⟨L,d,g⟩:=bind_some g
   unfold fe at d
   refine ak (ai (aa (vI a.1) (aa (vI a.2) (aa (vB (decide (a.1<a.2))) (af ?_)))))
   rcases aj d with⟨k,d⟩|⟨k,d⟩
   ·refine aA rfl k (ax (aQ (ai (aa (vI a.1) (aa (vI a.2) (aa (vI (w64 (a.1+a.2))) (oZ un3 Cz rfl wz ?_)))))))
    obtain ⟨e,F,d⟩:=bind_some d
    refine Hf rfl rfl F wz (oZ Cz un3 rfl wz (aa (vI (w64 e)) (af (ai (aa (vL eI c) (aa (vI (w64 e)) ?_))))))
    obtain ⟨J,B,d⟩:=bind_some d
    refine dI ic rfl rfl B rfl wz (bH sz3 ag3 rfl (vI J) rfl wz (aa (vI f) ?_))
    obtain ⟨M,y,d⟩:=bind_some d
    refine aG (De y) rfl hb92 rfl rfl rfl rfl wz (af ?_)
    rcases aj d with⟨l,d⟩|⟨l,d⟩
    ·refine aA rfl l (au (aa (vI (w64 e)) (aa (vI (w64 ((w64 e)+1))) (aa (vI (w64 ((w64 e)+1))) (af ?_)))))
     obtain rfl:=ae d
     exact aZ (i,((w64 ((w64 e)+1)),a.2)) g (ls_ _) rfl (aK rfl)
    ·refine ay rfl l (au (aa (vI (w64 e)) (aa (vI (w64 e)) (af ?_))))
     obtain rfl:=ae d
     exact aZ (i,(a.1,(w64 e))) g (ls_ _) rfl (aK rfl)
   ·refine ay rfl k (aY ?_)
    obtain rfl:=ae d
    obtain rfl:=ae g
    exact aW ((a.1,a.2)) rfl rfl (aK rfl)
 ·rintro a x I w q t
  subst x
  refine aR _ q t (ak ?_)
  obtain ⟨u,b,h⟩:=bind_some h
  refine aU [(4,(vI a.1)),(5,(vB u))] [] ?_ ?_
  ·refine au (aa (vI a.1) (aa (vI a.1) (aa (vI (c.length:Int)) (aa (vB (decide (a.1<(c.length:Int)))) ?_))))
   rcases aj b with⟨m,b⟩|⟨m,b⟩
   ·refine aB rfl m wz (aL (vL eI c) wa rfl (aL (vI a.1) wa rfl ?_))
    obtain ⟨v,C,b⟩:=bind_some b
    refine dI ic rfl rfl C rfl wa (bH sz3 ag3 rfl (vI v) rfl wa (aL (vI f) wa rfl (aL (vB (v==f)) wa rfl ?_)))
    rcases aj b with⟨n,b⟩|⟨n,b⟩
    ·refine aB rfl n wa (ah (ah (ah (ah (ah (ah (bU (wn rfl rfl) (bU (wn rfl rfl) (ah (aL (vB true) wa rfl (aa (vB true) (aa (vI a.1) (aa (vB true) (af ?_))))))))))))))
     obtain rfl:=ae b
     exact cu
    ·refine aB rfl n wa (aL (vL eI c) wa rfl (aL (vI a.1) wa rfl ?_))
     obtain ⟨K,E,b⟩:=bind_some b
     refine dI ic rfl rfl E rfl wa (bH sz3 ag3 rfl (vI K) rfl wa ?_)
     obtain ⟨N,z,b⟩:=bind_some b
     refine aG (ry z) rfl hb130 rfl rfl rfl rfl wa ?_
     rcases aj b with⟨o,b⟩|⟨o,b⟩
     ·refine aB rfl o wa (aL (vI f) wa rfl ?_)
      obtain ⟨j,A,b⟩:=bind_some b
      refine aG (ry A) rfl hb130 rfl rfl rfl rfl wa (aL (vB j) wa rfl (aL (vB j) wa rfl (aa (vB j) (aa (vI a.1) (aa (vB j) (af ?_))))))
      obtain rfl:=ae b
      exact cu
     ·refine aB rfl o wa (ah (ah (aL (vB false) wa rfl (aL (vB false) wa rfl (aa (vB false) (aa (vI a.1) (aa (vB false) (af ?_))))))))
      obtain rfl:=ae b
      exact cu
   ·refine aB rfl m wz (ah (ah (ah (ah (ah (ah (ah (bU (wn rfl rfl) (bU (wn rfl rfl) (bU (wn rfl rfl) (bU (wn rfl rfl) (bU (wn rfl rfl) (bU (wn rfl rfl) (bU (wn rfl rfl) (bU (wn rfl rfl) (bU (wn rfl rfl) (ah (aa (vB false) (aa (vI a.1) (aa (vB false) (af ?_)))))))))))))))))))))
    obtain rfl:=ae b
    exact cu
  ·rintro ⟨⟩ _ I w q t
   refine aR _ q t ?_
   obtain rfl:=ae h
   exact aC (aO [(vI a.1),(vB u)] ⟨rfl,⟨rfl,trivial⟩⟩)
theorem Af {b:Entry} {f:Int} {r:Bool} (c:mf b f=some r) :
  FnM Tryz.prog 76 [(.d (.agg (Entry.enc b))),(vI f)] [] (vB r) []:=by
 refine FnM.of_wH ⟨Tryz.prog,41,[],[]⟩ rfl Tryz.func76 rfl rfl (lb_ rfl) (by kernel_rfl) ?_
 unfold mf at c
 refine ai (jU 0 (.inl rfl) (Entry.v b) rfl rfl wz (λk=>aa (vB false) (af (ak (ak ?_)))))
 obtain ⟨t,a,c⟩:=bind_some c
 refine aU [(1,(vI f)),(2,(.ref k 0 0)),(31,(vB t))] [(k,some (.cells 13 (Entry.v b)))] ?_ ?_
 ·refine bv (aa (vI f) (aI H8 rfl 3 rfl wz (aH 2 0 (.inr (by kernel_rfl)) (λ_ _ ag=>trivial) sz3 ag3 rfl rfl (vI b.First) rfl wz (aI Iw rfl 4 rfl wz (aH 4 0 (.inr (by kernel_rfl)) (λ_ _ ag=>⟨.inl ⟨rfl,rfl⟩,trivial⟩) sz3 ag3 rfl rfl (vI b.Last) rfl wz ?_)))))
  obtain ⟨w,p,a⟩:=bind_some a
  refine aG (bA p) rfl rR rfl rfl rfl rfl wz ?_
  rcases aj a with⟨i,a⟩|⟨i,a⟩
  ·refine aB rfl i wz (ah (ah (ah (ah (ah (ah (ah (ah (aa (vB true) (aa (vB true) (ah (ah (ah (ah (ah (ah (ah (aa (vB true) (af ?_)))))))))))))))))))
   obtain rfl:=ae a
   exact cu
  ·refine aB rfl i wz (aL (vI f) wa rfl (aI H8 rfl 3 rfl wa (aH 9 0 (.inr (by kernel_rfl)) (λ_ _ ag=>⟨.inl ⟨rfl,rfl⟩,⟨.inl ⟨rfl,rfl⟩,trivial⟩⟩) sz3 ag3 rfl rfl (vI b.First) rfl wa (aL (vI (w64 (f-b.First))) wa rfl (aI R4 rfl 5 rfl wa (aH 12 0 (.inr (by kernel_rfl)) (λ_ _ ag=>⟨.inl ⟨rfl,rfl⟩,⟨.inl ⟨rfl,rfl⟩,⟨.inl ⟨rfl,rfl⟩,trivial⟩⟩⟩) sz3 ag3 rfl rfl (vI b.Every) rfl wa ?_))))))
   obtain ⟨l,q,a⟩:=bind_some a
   refine RD rfl rfl q wa (aL (vB (l != 0)) wa rfl (aa (vB (l != 0)) ?_))
   rcases aj a with⟨g,a⟩|⟨g,a⟩
   ·refine aB rfl g wz (ah (ah (ah (ah (ah (ah (ah (aa (vB true) (af ?_)))))))))
    obtain rfl:=ae a
    exact cu
   ·refine aB rfl g wz (aI RU rfl 6 rfl wa (aH 18 0 (.inr (by kernel_rfl)) (λ_ _ ag=>⟨.inl ⟨rfl,rfl⟩,⟨.inl ⟨rfl,rfl⟩,⟨.inl ⟨rfl,rfl⟩,⟨.inl ⟨rfl,rfl⟩,trivial⟩⟩⟩⟩) sz3 ag3 rfl rfl (vI b.Days) rfl wa (aL (vI f) wa rfl (aL (vI (f.tmod 7)) wa rfl ?_))))
    obtain ⟨j,s,a⟩:=bind_some a
    refine h_shl rfl rfl s wa (aL (vI (Cf .i64 b.Days j)) wa rfl (aL (vB ((Cf .i64 b.Days j)==0)) wa rfl (aa (vB ((Cf .i64 b.Days j)==0)) (af ?_))))
    obtain rfl:=ae a
    exact cu
 ·rintro ⟨⟩ _ x u m n
  refine aR _ m n ?_
  rcases aj c with⟨h,c⟩|⟨h,c⟩
  ·refine aA rfl h (ai (aa (vB false) (af ?_)))
   obtain rfl:=ae c
   exact aC (aO [(vB false)] ⟨rfl,trivial⟩)
  ·refine ay rfl h (ax (ai (aI Qb rfl 7 rfl wz (aH 0 0 il ft uw wo rfl rfl (vL eI b.Except) rfl wz (aa (vI f) ?_)))))
   obtain ⟨e,o,c⟩:=bind_some c
   refine aG (pI o) rfl hb104 rfl rfl rfl rfl wz (aa (.tup [(vI e.1),(vB e.2)]) (aa (vI e.1) (aa (vB e.2) (aa (vI e.1) (aa (vB e.2) (af (ai (aa (vB e.2) (aa (vB (!e.2)) (aa (vB (!e.2)) (af ?_)))))))))))
   obtain rfl:=ae c
   exact aC (aO [(vB (!e.2))] ⟨rfl,trivial⟩)
theorem zk {a:Entry} {c:Int} {b:Int} {r:Window} (g:nQ a c b=some r) :
  FnM Tryz.prog 77 [(.d (.agg (Entry.enc a))),(vI c),(vI b)] [] (.d (.agg (Window.enc r))) []:=by
 refine FnM.of_wH ⟨Tryz.prog,32,[],[]⟩ rfl Tryz.func77 rfl rfl (lb_ rfl) (by kernel_rfl) ?_
 unfold nQ at g
 refine ai (jU 0 (.inl rfl) (Entry.v a) rfl rfl wz (λi=>dz 0 (.inl rfl) z37 rfl wz (λj=>af (ai (aI Ra rfl 9 rfl wz (aH 0 0 il ft sz3 ag3 rfl rfl (vI a.To) rfl wz (aI LZ rfl 8 rfl wz (aH 0 0 il ft sz3 ag3 rfl rfl (vI a.From) rfl wz (aa (vI (w64 (a.To-a.From))) (aa (vI (w64 (a.To-a.From))) (af (ak (ai (aa (vI (w64 (a.To-a.From))) (aa (vB (decide ((w64 (a.To-a.From))<=0))) (af ?_))))))))))))))))
 obtain ⟨e,f,g⟩:=bind_some g
 refine aU [(1,(vI c)),(2,(vI b)),(3,(.ref i 0 0)),(6,(.ref j 0 0)),(7,(vI e))] [(i,some (.cells 13 (Entry.v a))),(j,some (.cells 2 [(vI 0),(vI 0)]))] ?_ ?_
 ·rcases aj f with⟨h,f⟩|⟨h,f⟩
  ·refine aA rfl h (au (aa (vI (w64 (a.To-a.From))) (aa (vI (w64 ((w64 (a.To-a.From))+1440))) (aa (vI (w64 ((w64 (a.To-a.From))+1440))) (af ?_)))))
   obtain rfl:=ae f
   exact cu
  ·refine ay rfl h (ax ?_)
   obtain rfl:=ae f
   exact cu
 ·rintro ⟨⟩ _ n m k l
  refine aR _ k l (ai (aa (vI b) (aa (vI (w64 (b*1440))) (aI LZ rfl 8 rfl wz (aH 0 0 il ft sz3 ag3 rfl rfl (vI a.From) rfl wz (aa (vI (w64 ((w64 (b*1440))+a.From))) (aa (vI c) (aa (vI (w64 ((w64 ((w64 (b*1440))+a.From))-c))) (aa (vI (w64 ((w64 ((w64 ((w64 (b*1440))+a.From))-c))*60000))) (aa (vI (w64 ((w64 ((w64 ((w64 (b*1440))+a.From))-c))*60000))) (af (ai (aa (vI (w64 ((w64 ((w64 ((w64 (b*1440))+a.From))-c))*60000))) (aa (vI (w64 ((w64 ((w64 ((w64 (b*1440))+a.From))-c))*60000))) (aa (vI e) (aa (vI (w64 (e*60000))) (aa (vI (w64 ((w64 ((w64 ((w64 ((w64 (b*1440))+a.From))-c))*60000))+(w64 (e*60000))))) (aL (.d (.agg (Window.enc (⟨(w64 ((w64 ((w64 ((w64 (b*1440))+a.From))-c))*60000)),(w64 ((w64 ((w64 ((w64 ((w64 (b*1440))+a.From))-c))*60000))+(w64 (e*60000))))⟩:Window)))) wz (by kernel_rfl) (gp 0 il ft 1 yN rfl rfl [(vI (w64 ((w64 ((w64 ((w64 (b*1440))+a.From))-c))*60000))),(vI (w64 ((w64 ((w64 ((w64 ((w64 (b*1440))+a.From))-c))*60000))+(w64 (e*60000)))))] rfl wz (af ?_))))))))))))))))))))
  obtain rfl:=ae g
  exact aC (aO [(.d (.agg (Window.enc (⟨(w64 ((w64 ((w64 ((w64 (b*1440))+a.From))-c))*60000)),(w64 ((w64 ((w64 ((w64 ((w64 (b*1440))+a.From))-c))*60000))+(w64 (e*60000))))⟩:Window))))] ⟨⟨1,_,_,_,_,_,_,_,rfl,rfl,yN,Gf,rfl⟩,trivial⟩)
theorem Dc {a:Window} {b:Window} {r:Window} (c:vR a b=some r) :
  FnM Tryz.prog 50 [(.d (.agg (Window.enc a))),(.d (.agg (Window.enc b)))] [] (.d (.agg (Window.enc r))) []:=by
 refine FnM.of_wH ⟨Tryz.prog,16,[],[]⟩ rfl Tryz.func50 rfl rfl (lb_ rfl) (by kernel_rfl) ?_
 unfold vR at c
 refine ai (jU 0 (.inl rfl) [(vI a.From),(vI a.To)] rfl rfl wz (λe=>jU 0 (.inl rfl) [(vI b.From),(vI b.To)] rfl rfl wz (λf=>dz 0 (.inl rfl) z37 rfl wz (λg=>af (ai (aI mg rfl 0 rfl wz (aH 0 0 il ft sz3 ag3 rfl rfl (vI a.From) rfl wz (aI mg rfl 0 rfl wz (aH 0 1 il ft sz3 ag3 rfl rfl (vI b.From) rfl wz (qm (vI (jc a.From b.From)) rfl (.inr rfl) wz (aI mI rfl 1 rfl wz (aH 0 0 il ft sz3 ag3 rfl rfl (vI a.To) rfl wz (aI mI rfl 1 rfl wz (aH 0 1 il ft sz3 ag3 rfl rfl (vI b.To) rfl wz (qm (vI (zi a.To b.To)) rfl (.inl rfl) wz (aL (.d (.agg (Window.enc (⟨(jc a.From b.From),(zi a.To b.To)⟩:Window)))) wz (by kernel_rfl) (gp 0 il ft 2 yN rfl rfl [(vI (jc a.From b.From)),(vI (zi a.To b.To))] rfl wz (af ?_))))))))))))))))))
 obtain rfl:=ae c
 exact aC (aO [(.d (.agg (Window.enc (⟨(jc a.From b.From),(zi a.To b.To)⟩:Window))))] ⟨⟨2,_,_,_,_,_,_,_,rfl,rfl,yN,Gf,rfl⟩,trivial⟩)
theorem zC {e:Entry} {c:Int} {a:Window} {r:(List Window)} (j:lZ e c a=some r) :
  FnM Tryz.prog 49 [(.d (.agg (Entry.enc e))),(vI c),(.d (.agg (Window.enc a)))] [] (gV (av 0) 2 r) (([]:List Box).map some++gO 2 Window.enc r):=by
 refine FnM.of_wH ⟨Tryz.prog,72,[],[]⟩ rfl Tryz.func49 rfl rfl (lb_ rfl) (by kernel_rfl) ?_
 unfold lZ at j
 refine ai (jU 0 (.inl rfl) (Entry.v e) rfl rfl wz (λk=>jU 0 (.inl rfl) [(vI a.From),(vI a.To)] rfl rfl wz (λl=>aa .nil (af (ai (aa .nil (af (ak (ak ?_)))))))))
 obtain ⟨Y,u,j⟩:=bind_some j
 refine aU [(1,(vI c)),(3,(.ref k 0 0)),(5,(.ref l 0 0)),(7,.nil),(20,(vB Y))] [(k,some (.cells 13 (Entry.v e))),(l,some (.cells 2 [(vI a.From),(vI a.To)]))] ?_ ?_
 ·refine au (aI pl87_12 rfl 12 rfl wz (aH 0 0 il ft sz4 ag4 rfl rfl (vB e.Gone) rfl wz ?_))
  rcases aj u with⟨E,u⟩|⟨E,u⟩
  ·refine aB rfl E wz (ah (ah (ah (ah (ah (aa (vB true) (af ?_)))))))
   obtain rfl:=ae u
   exact cu
  ·refine aB rfl E wz (aI mg rfl 0 rfl wa (aH 0 1 il ft sz3 ag3 rfl rfl (vI a.From) rfl wa (aI mI rfl 1 rfl wa (aH 0 1 il ft sz3 ag3 rfl rfl (vI a.To) rfl wa (aL (vB (decide (a.From>=a.To))) wa rfl (aa (vB (decide (a.From>=a.To))) (af ?_)))))))
   obtain rfl:=ae u
   exact cu
 ·rintro ⟨⟩ _ I y o q
  refine aR _ o q ?_
  rcases aj j with⟨F,j⟩|⟨F,j⟩
  ·refine aA rfl F (ai (aa .nil (af (jJ (λÀ => ?_)))))
   obtain rfl:=ae j
   exact aC (finG (outs:=([]:List Box)) (.inr rfl) 2 rfl rfl rfl (by kernel_rfl) (by kernel_rfl))
  ·refine ay rfl F (ax (ai (aI mg rfl 0 rfl wz (aH 0 1 il ft sz3 ag3 rfl rfl (vI a.From) rfl wz (aa (vI c) (aa (vI (w64 (c*60000))) (aa (vI (w64 (a.From+(w64 (c*60000))))) (aa (vI (w64 ((w64 (a.From+(w64 (c*60000)))).tdiv 86400000))) (aa (vI (w64 ((w64 ((w64 (a.From+(w64 (c*60000)))).tdiv 86400000))-2))) (aa (vI (w64 ((w64 ((w64 (a.From+(w64 (c*60000)))).tdiv 86400000))-2))) (af (ai (aI mI rfl 1 rfl wz (aH 0 1 il ft sz3 ag3 rfl rfl (vI a.To) rfl wz (aa (vI c) (aa (vI (w64 (c*60000))) (aa (vI (w64 (a.To+(w64 (c*60000))))) (aa (vI (w64 ((w64 (a.To+(w64 (c*60000)))).tdiv 86400000))) (aa (vI (w64 ((w64 ((w64 (a.To+(w64 (c*60000)))).tdiv 86400000))+1))) (aa (vI (w64 ((w64 ((w64 (a.To+(w64 (c*60000)))).tdiv 86400000))+1))) (af (ak (ai ?_)))))))))))))))))))))))
   refine aa (vI (w64 ((w64 ((w64 (a.From+(w64 (c*60000)))).tdiv 86400000))-2))) (aI H8 rfl 3 rfl wz (aH 0 0 il ft sz3 ag3 rfl rfl (vI e.First) rfl wz (qm (vI (jc (w64 ((w64 ((w64 (a.From+(w64 (c*60000)))).tdiv 86400000))-2)) e.First)) rfl (.inr rfl) wz (aa (vI (jc (w64 ((w64 ((w64 (a.From+(w64 (c*60000)))).tdiv 86400000))-2)) e.First)) (af (jJ (λR => ?_)))))))
   obtain ⟨U,G,j⟩:=bind_some j
   obtain ⟨T,G⟩:=bW G
   refine xn (σ:=(List Window)×Int) (N:=Nm) (λp=>(λ(b:(List Window)×Int) (g:Nm)=>([(7,(gV g 2 b.1))]:SL_)) p.1 p.2) (λp=>(λ(b:(List Window)×Int) (g:Nm)=>([(k,some (.cells 13 (Entry.v e))),(l,some (.cells 2 [(vI a.From),(vI a.To)])),(g,gB 2 Window.enc b.1)]:Hp)) p.1 p.2) (λ(w:Nat)=>(λp=>(λ(b:(List Window)×Int) (g:Nm)=>([(1,(vI c)),(3,(.ref k 0 0)),(5,(.ref l 0 0)),(7,(gV g 2 b.1)),(9,(vI (w64 ((w64 ((w64 (a.To+(w64 (c*60000)))).tdiv 86400000))+1)))),(10,(vI b.2))]:SL_)) p.1 p.2)) (λs=>jR a c e s) U T ((([]:List Window),(jc (w64 ((w64 ((w64 (a.From+(w64 (c*60000)))).tdiv 86400000))-2)) e.First)),R) G rfl (aK rfl) ?_ ?_
   ·rintro ⟨w,b,g⟩ m
    dsimp only at m
    cases w with
    | zero=>cases m
    | succ w =>
     obtain ⟨Z,f,m⟩:=bind_some m
     unfold jR at f
     refine ak (ai (aa (vI b.2) (aa (vI (w64 ((w64 ((w64 (a.To+(w64 (c*60000)))).tdiv 86400000))+1))) (aI Iw rfl 4 rfl wz (aH 0 0 il ft sz3 ag3 rfl rfl (vI e.Last) rfl wz (qm (vI (zi (w64 ((w64 ((w64 (a.To+(w64 (c*60000)))).tdiv 86400000))+1)) e.Last)) rfl (.inl rfl) wz (aa (vB (decide (b.2<=(zi (w64 ((w64 ((w64 (a.To+(w64 (c*60000)))).tdiv 86400000))+1)) e.Last)))) (af ?_))))))))
     rcases aj f with⟨z,f⟩|⟨z,f⟩
     ·refine aA rfl z (ax (ak (aQ (ak (ai (aH 0 0 il ft LC OB rfl rfl (.d (.agg (Entry.enc e))) rfl wz (aa (vI b.2) ?_)))))))
      obtain ⟨W,O,f⟩:=bind_some f
      refine aG (Af O) rfl hb76 rfl rfl rfl rfl wz (aa (vB (!W)) (af ?_))
      rcases aj f with⟨A,f⟩|⟨A,f⟩
      ·refine aA rfl A (aY (au (aa (vI b.2) (aa (vI (w64 (b.2+1))) (aa (vI (w64 (b.2+1))) (af ?_))))))
       obtain rfl:=ae f
       exact aZ (w,(b.1,(w64 (b.2+1))),g) m (ls_ _) rfl (aK rfl)
      ·refine ay rfl A (ax (ai (aH 0 0 il ft LC OB rfl rfl (.d (.agg (Entry.enc e))) rfl wz (aa (vI c) (aa (vI b.2) ?_)))))
       obtain ⟨h,P,f⟩:=bind_some f
       refine aG (zk P) rfl hb77 rfl rfl rfl rfl wz (dz 0 (.inl rfl) z37 rfl wz (λH=>gp 0 il ft 3 yN rfl rfl [(vI h.From),(vI h.To)] rfl wz (af (ak ?_))))
       obtain ⟨X,t,f⟩:=bind_some f
       refine aU [(1,(vI c)),(3,(.ref k 0 0)),(5,(.ref l 0 0)),(7,(gV g 2 b.1)),(9,(vI (w64 ((w64 ((w64 (a.To+(w64 (c*60000)))).tdiv 86400000))+1)))),(10,(vI b.2)),(11,(.ref H 0 0)),(66,(vB X))] [(k,some (.cells 13 (Entry.v e))),(l,some (.cells 2 [(vI a.From),(vI a.To)])),(g,gB 2 Window.enc b.1),(H,some (.cells 2 [(vI h.From),(vI h.To)]))] ?_ ?_
       ·refine au (aI mg rfl 0 rfl wz (aH 0 3 il ft sz3 ag3 rfl rfl (vI h.From) rfl wz (aI mI rfl 1 rfl wz (aH 0 1 il ft sz3 ag3 rfl rfl (vI a.To) rfl wz (aa (vB (decide (h.From<a.To))) ?_)))))
        rcases aj t with⟨B,t⟩|⟨B,t⟩
        ·refine aB rfl B wz (aI mI rfl 1 rfl wa (aH 0 3 il ft sz3 ag3 rfl rfl (vI h.To) rfl wa (aI mg rfl 0 rfl wa (aH 0 1 il ft sz3 ag3 rfl rfl (vI a.From) rfl wa (aL (vB (decide (h.To>a.From))) wa rfl (aa (vB (decide (h.To>a.From))) (af ?_)))))))
         obtain rfl:=ae t
         exact cu
        ·refine aB rfl B wz (ah (ah (ah (ah (ah (aa (vB false) (af ?_)))))))
         obtain rfl:=ae t
         exact cu
       ·rintro ⟨⟩ _ I y o q
        refine aR _ o q ?_
        obtain ⟨J,n,f⟩:=bind_some f
        refine kr (β:=Nm) (λ(x:Nm)=>([(1,(vI c)),(3,(.ref k 0 0)),(5,(.ref l 0 0)),(7,(gV x 2 J)),(9,(vI (w64 ((w64 ((w64 (a.To+(w64 (c*60000)))).tdiv 86400000))+1)))),(10,(vI b.2))]:SL_)) (λ(x:Nm)=>([(k,some (.cells 13 (Entry.v e))),(l,some (.cells 2 [(vI a.From),(vI a.To)])),(x,gB 2 Window.enc J),(H,some (.cells 2 [(vI h.From),(vI h.To)]))]:Hp)) (λ_=>True) ?_ ?_
        ·rcases aj n with⟨C,n⟩|⟨C,n⟩
         ·refine aA rfl C (au (aa (gV g 2 b.1) (aH 0 3 il ft yN Gf rfl rfl (.d (.agg (Window.enc h))) rfl wz (gL (([h]:List Window).map Window.enc) es83 ez83 rfl rfl rfl rfl rfl wz ?_))))
          obtain ⟨L,Q,n⟩:=bind_some n
          refine jr 0 il ft (i:=2) el83 el83 yN z37 rfl (by decide) by37 (by decide) (λ_=>rfl) rfl rfl rfl Q wz (λK=>aa (gV K 2 L) (af ?_))
          obtain rfl:=ae n
          exact aW K trivial rfl (aK rfl)
         ·refine ay rfl C (ax ?_)
          obtain rfl:=ae n
          exact aW g trivial rfl (aK rfl)
        ·rintro x _ I y o q
         refine aR _ o q (au (aa (vI b.2) (aa (vI (w64 (b.2+1))) (aa (vI (w64 (b.2+1))) (af ?_)))))
         obtain rfl:=ae f
         exact aZ (w,(J,(w64 (b.2+1))),x) m (ls_ _) rfl (aK rfl)
     ·refine ay rfl z (aY ?_)
      obtain rfl:=ae f
      obtain rfl:=ae m
      exact aW ((b.1,b.2),g) rfl rfl (aK rfl)
   ·rintro ⟨b,g⟩ M I y o q
    subst M
    refine aR _ o q (ai (aa (gV g 2 b.1) (aa (gV g 2 b.1) (af ?_))))
    obtain rfl:=ae j
    exact aC (finG (outs:=([]:List Box)) (.inr rfl) 2 rfl rfl rfl (by kernel_rfl) (by kernel_rfl))
end Go.Proofs.YtkjlhdminmpmkaaGreatDoor.Law

