/-
 The machine computes these plain functions (written by a program of ours).
-/
import Derived.Test.YtljhfffghjclfabGreatDoorFacts
import Derived.Test.YtljhfffghjclfabGreatDoorDefs
import Derived.Test.YtljhfffghjclfabGreatDoorPf1
import Derived.Test.YtljhfffghjclfabGreatDoorShelf
open Go Go.Eng Go.Proofs
namespace Go.Proofs.YtljhfffghjclfabGreatDoor.Law
set_option maxRecDepth 100000
set_option linter.unusedVariables false
set_option maxHeartbeats 1000000
theorem yY {b:Alert} {r:Int} (a:eQ b=some r) :
  FnM Tryz.prog 37 [(.d (.agg (Alert.enc b)))] [] (vI r) []:=by
 refine FnM.of_wH ⟨Tryz.prog,92,[],[]⟩ rfl Tryz.func37 rfl rfl (lb_ rfl) (by kernel_rfl) ?_
 unfold eQ at a
 refine ai (iW 0 (.inl rfl) (Alert.v b) rfl rfl wz (λh=>aa (vI 0) (af (ak (ak ?_)))))
 obtain ⟨Ê,f,a⟩:=bind_some a
 refine aP [(1,(.ref h 0 0)),(17,(vB Ê))] [(h,some (.cells 9 (Alert.v b)))] ?_ ?_
 ·refine av (aG uz rfl 0 rfl wz (aF 0 0 il ft sz9 ag9 rfl rfl (vS b.Id) rfl wz ?_))
  obtain ⟨È,Á,f⟩:=bind_some f
  refine aD (fU Á) rfl Fw rfl rfl rfl rfl wz (aa (vB (!È)) ?_)
  rcases aj f with⟨K,f⟩|⟨K,f⟩
  ·refine aC rfl K wz (ah (ah (ah (ah (aa (vB true) (af ?_))))))
   obtain rfl:=ae f
   exact cu
  ·refine aC rfl K wz (aG Mr rfl 1 rfl wa (aF 0 0 il ft sz9 ag9 rfl rfl (vS b.Sender) rfl wa ?_))
   obtain ⟨P,Â,f⟩:=bind_some f
   refine aD (fU Â) rfl Fw rfl rfl rfl rfl wa (aI (vB (!P)) wa rfl (aa (vB (!P)) (af ?_)))
   obtain rfl:=ae f
   exact cu
 ·rintro ⟨⟩ _ N t i j
  refine aN _ i j ?_
  rcases aj a with⟨u,a⟩|⟨u,a⟩
  ·refine aB rfl u (ai (aa (vI 5) (af ?_)))
   obtain rfl:=ae a
   exact ay (aK [(vI 5)] ⟨rfl,trivial⟩)
  ·refine aA rfl u (ax (ak (ai (aG Aa rfl 2 rfl wz (aF 0 0 il ft sz3 ag3 rfl rfl (vI b.Kind) rfl wz ?_)))))
   obtain ⟨Î,T,a⟩:=bind_some a
   refine aD (bv T) rfl rU rfl rfl rfl rfl wz (af ?_)
   rcases aj a with⟨w,a⟩|⟨w,a⟩
   ·refine aB rfl w (ai (aa (vI 4) (af ?_)))
    obtain rfl:=ae a
    exact ay (aK [(vI 4)] ⟨rfl,trivial⟩)
   ·refine aA rfl w (ax (ak (ai (aF 0 0 il ft mG tH rfl rfl (.d (.agg (Alert.enc b))) rfl wz ?_))))
    obtain ⟨o,U,a⟩:=bind_some a
    refine aD (zt U) rfl hb74 rfl rfl rfl rfl wz (aa (vI o) (af (ai (aa (vI o) (aa (vB (o != 0)) (af ?_))))))
    rcases aj a with⟨y,a⟩|⟨y,a⟩
    ·refine aB rfl y (ai (aa (vI o) (aa (vI o) (af ?_))))
     obtain rfl:=ae a
     exact ay (aK [(vI o)] ⟨rfl,trivial⟩)
    ·refine aA rfl y (ax (ak (ak ?_)))
     obtain ⟨É,c,a⟩:=bind_some a
     refine aP [(1,(.ref h 0 0)),(45,(vB É))] [(h,some (.cells 9 (Alert.v b)))] ?_ ?_
     ·refine av (aG qB rfl 4 rfl wz (aF 0 0 il ft sz3 ag3 rfl rfl (vI b.At) rfl wz ?_))
      obtain ⟨Ä,W,c⟩:=bind_some c
      refine aD (iI W) rfl Mj rfl rfl rfl rfl wz (aa (vB (!Ä)) ?_)
      rcases aj c with⟨z,c⟩|⟨z,c⟩
      ·refine aC rfl z wz (ah (ah (ah (ah (ah (ah (ah (ah (ah (aa (vB true) (aa (vB true) (ah (ah (ah (aa (vB true) (af ?_))))))))))))))))
       obtain rfl:=ae c
       exact cu
      ·refine aC rfl z wz (aG IM rfl 5 rfl wa (aF 0 0 il ft sz3 ag3 rfl rfl (vI b.Until) rfl wa (aG qB rfl 4 rfl wa (aF 0 0 il ft sz3 ag3 rfl rfl (vI b.At) rfl wa (aI (vI (w64 (b.At+1))) wa rfl (aG qB rfl 4 rfl wa (aF 0 0 il ft sz3 ag3 rfl rfl (vI b.At) rfl wa (aI (vI (w64 (b.At+2592000000))) wa rfl ?_))))))))
       obtain ⟨Å,X,c⟩:=bind_some c
       refine aD (bv X) rfl rU rfl rfl rfl rfl wa (aa (vB Å) ?_)
       rcases aj c with⟨A,c⟩|⟨A,c⟩
       ·refine aC rfl A wz (ah (ah (ah (aa (vB true) (af ?_)))))
        obtain rfl:=ae c
        exact cu
       ·refine aC rfl A wz (aG MQ rfl 6 rfl wa (aF 0 0 il ft sz3 ag3 rfl rfl (vI b.Weight) rfl wa ?_))
        obtain ⟨Æ,Y,c⟩:=bind_some c
        refine aD (bv Y) rfl rU rfl rfl rfl rfl wa (aa (vB Æ) (af ?_))
        obtain rfl:=ae c
        exact cu
     ·rintro ⟨⟩ _ N t i j
      refine aN _ i j ?_
      rcases aj a with⟨B,a⟩|⟨B,a⟩
      ·refine aB rfl B (ai (aa (vI 1) (af ?_)))
       obtain rfl:=ae a
       exact ay (aK [(vI 1)] ⟨rfl,trivial⟩)
      ·refine aA rfl B (ax (ak (ai (aG rZ rfl 7 rfl wz (aF 0 0 il ft BZ FJ rfl rfl (vL Rect.enc b.Areas) rfl wz (bL yX rfl wz (aa (vB (decide ((b.Areas.length:Int)>20))) (af ?_))))))))
       rcases aj a with⟨C,a⟩|⟨C,a⟩
       ·refine aB rfl C (ai (aa (vI 2) (af ?_)))
        obtain rfl:=ae a
        exact ay (aK [(vI 2)] ⟨rfl,trivial⟩)
       ·refine aA rfl C (ax (ak (ai (aG rZ rfl 7 rfl wz (aF 0 0 il ft BZ FJ rfl rfl (vL Rect.enc b.Areas) rfl wz (bL yX rfl wz (aa (vI 0) (af ?_))))))))
        obtain ⟨Ã,L,a⟩:=bind_some a
        obtain ⟨Q,L⟩:=aZ L
        refine dh (λ(q:Unit)=>[(1,(.ref h 0 0))]) (λ(q:Unit)=>[(h,some (.cells 9 (Alert.v b)))]) (λ(n:Nat)=>(λ(q:Unit)=>[(1,(.ref h 0 0)),(51,(vL Rect.enc b.Areas)),(52,(vI (b.Areas.length:Int))),(53,(vI (n:Int)))])) (λk x s=>dF k x s) Ã b.Areas () L rfl (aJ rfl) ?_ ?_
        ·rintro ⟨n,M,q⟩ ⟨m,l⟩
         dsimp only at m l
         cases M with
         | nil =>
          obtain rfl:=ae m
          refine ai (aa (vB (decide ((n:Int)<(b.Areas.length:Int)))) (af ?_))
          refine ak (aA rfl (drop_nil l) (bg ?_))
          exact aY (q) rfl rfl (aJ rfl)
         | cons O M =>
          obtain ⟨Ì,g,m⟩:=bind_some m
          refine ai (aa (vB (decide ((n:Int)<(b.Areas.length:Int)))) (af ?_))
          refine ak (aB rfl (bz l) (ax ?_))
          unfold dF at g
          refine ak (aM (ai (dC BI rfl rfl (bI l) rfl wz (bC qw EJ rfl (.d (.agg (Rect.enc O))) rfl wz (dP 0 (.inl rfl) z47 rfl wz (λÍ=>gy 0 il ft 1 qw rfl rfl (Rect.v O) rfl wz (af (ai (aF 0 1 il ft qw EJ rfl rfl (.d (.agg (Rect.enc O))) rfl wz ?_)))))))))
          obtain ⟨p,Z,g⟩:=bind_some g
          refine aD (qP Z) rfl hb75 rfl rfl rfl rfl wz (aa (vI p) (af (ai (aa (vI p) (aa (vB (p != 0)) (af ?_))))))
          rcases aj g with⟨E,g⟩|⟨E,g⟩
          ·refine aB rfl E (ai (aa (vI p) (aa (vI p) (af ?_))))
           obtain rfl:=ae g
           obtain rfl:=ae m
           obtain rfl:=ae a
           exact ay (aK [(vI p)] ⟨rfl,trivial⟩)
          ·refine aA rfl E (ax (av (fC (bG l Q) wz rfl (aa (vI ((n+1:Nat):Int)) (af ?_)))))
           obtain rfl:=ae g
           exact bf (n+1,M,()) ⟨m,aW l⟩ (ls_ _) rfl (aJ rfl)
        ·rintro q R N t i j
         subst R
         refine aN _ i j (ai (aG Aa rfl 2 rfl wz (aF 0 0 il ft sz3 ag3 rfl rfl (vI b.Kind) rfl wz (aa (vB (b.Kind==3)) (aa (vB (b.Kind==3)) (af (ak (aM (ai (aa (vB (b.Kind==3)) (aG rZ rfl 7 rfl wz (aF 0 0 il ft BZ FJ rfl rfl (vL Rect.enc b.Areas) rfl wz (bL yX rfl wz (aa (vB ((b.Areas.length:Int)==0)) (QI un4 rfl rfl wz (aa (vB (!((b.Kind==3)==((b.Areas.length:Int)==0)))) (af ?_)))))))))))))))))
         rcases aj a with⟨F,a⟩|⟨F,a⟩
         ·refine aB rfl F (ai (aa (vI 3) (af ?_)))
          obtain rfl:=ae a
          exact ay (aK [(vI 3)] ⟨rfl,trivial⟩)
         ·refine aA rfl F (ai (aG sZ rfl 8 rfl wz (aF 0 0 il ft sz9 ag9 rfl rfl (vS b.Text) rfl wz (oK un9 rfl wz (aa (vB (decide ((b.Text.size:Int)>500))) (aa (vB (decide ((b.Text.size:Int)>500))) (af ?_)))))))
          rcases aj a with⟨G,a⟩|⟨G,a⟩
          ·refine aB rfl G (ai (aa (vI 2) (af ?_)))
           obtain rfl:=ae a
           exact ay (aK [(vI 2)] ⟨rfl,trivial⟩)
          ·refine aA rfl G (ak ?_)
           obtain ⟨Ë,e,a⟩:=bind_some a
           refine aP [(78,(vB Ë))] [(h,some (.cells 9 (Alert.v b)))] ?_ ?_
           ·refine av (aG sZ rfl 8 rfl wz (aF 0 0 il ft sz9 ag9 rfl rfl (vS b.Text) rfl wz ?_))
            obtain ⟨Ç,À,e⟩:=bind_some e
            refine aD (Et À) rfl hb76 rfl rfl rfl rfl wz (aa (vB (!Ç)) ?_)
            rcases aj e with⟨H,e⟩|⟨H,e⟩
            ·refine aC rfl H wz (ah (ah (ah (ah (bR (wn rfl rfl) (bR (wn rfl rfl) (ah (aa (vB true) (aa (vB true) (af ?_))))))))))
             obtain rfl:=ae e
             exact cu
            ·refine aC rfl H wz (aG sZ rfl 8 rfl wa (aF 0 0 il ft sz9 ag9 rfl rfl (vS b.Text) rfl wa (aI (vB (sEq b.Text (⟨#[]⟩:ByteArray))) wa rfl ?_)))
             rcases aj e with⟨I,e⟩|⟨I,e⟩
             ·refine aC rfl I wa (aI (vB (b.Kind==3)) wa rfl (aI (vB (!(b.Kind==3))) wa rfl (aI (vB (!(b.Kind==3))) wa rfl (aa (vB (!(b.Kind==3))) (aa (vB (!(b.Kind==3))) (af ?_))))))
              obtain rfl:=ae e
              exact cu
             ·refine aC rfl I wa (ah (ah (aI (vB false) wa rfl (aa (vB false) (aa (vB false) (af ?_))))))
              obtain rfl:=ae e
              exact cu
           ·rintro ⟨⟩ _ N t i j
            refine aN _ i j ?_
            rcases aj a with⟨J,a⟩|⟨J,a⟩
            ·refine aB rfl J (ai (aa (vI 3) (af ?_)))
             obtain rfl:=ae a
             exact ay (aK [(vI 3)] ⟨rfl,trivial⟩)
            ·refine aA rfl J (ax (ai (aa (vI 0) (af ?_))))
             obtain rfl:=ae a
             exact ay (aK [(vI 0)] ⟨rfl,trivial⟩)
theorem mF {a:Int} {r:Bool} (b:cmp_isNaN_int a=some r) :
  FnM Tryz.prog 112 [(vI a)] [] (vB r) []:=by
 refine FnM.of_wH ⟨Tryz.prog,6,[],[]⟩ rfl Tryz.func112 rfl rfl (lb_ rfl) (by kernel_rfl) ?_
 unfold cmp_isNaN_int at b
 refine ai (aa (vB false) (af (ai (aa (vI a) (aa (vI a) (aa (vB (a != a)) (aa (vB (a != a)) (af ?_))))))))
 obtain rfl:=ae b
 exact ay (aK [(vB (a != a))] ⟨rfl,trivial⟩)
theorem sw {b:Int} {c:Int} {r:Int} (a:cmp_Compare_int b c=some r) :
  FnM Tryz.prog 78 [(vI b),(vI c)] [] (vI r) []:=by
 refine FnM.of_wH ⟨Tryz.prog,20,[],[]⟩ rfl Tryz.func78 rfl rfl (lb_ rfl) (by kernel_rfl) ?_
 unfold cmp_Compare_int at a
 refine ai (aa (vI 0) (af (ai (aa (vI b) ?_))))
 obtain ⟨j,k,a⟩:=bind_some a
 refine aD (mF k) rfl Nc rfl rfl rfl rfl wz (aa (vB j) (af (ai (aa (vI c) ?_))))
 obtain ⟨i,l,a⟩:=bind_some a
 refine aD (mF l) rfl Nc rfl rfl rfl rfl wz (aa (vB i) (af (ak (ai (aa (vB j) (af ?_))))))
 rcases aj a with⟨f,a⟩|⟨f,a⟩
 ·refine aB rfl f (ak (ai (aa (vB i) (af ?_))))
  rcases aj a with⟨g,a⟩|⟨g,a⟩
  ·refine aB rfl g (ai (aa (vI 0) (af ?_)))
   obtain rfl:=ae a
   exact ay (aK [(vI 0)] ⟨rfl,trivial⟩)
  ·refine aA rfl g (ax (ai (aa (vI (-1)) (af ?_))))
   obtain rfl:=ae a
   exact ay (aK [(vI (-1))] ⟨rfl,trivial⟩)
 ·refine aA rfl f (ax (ak (ai (aa (vB i) (af ?_)))))
  rcases aj a with⟨h,a⟩|⟨h,a⟩
  ·refine aB rfl h (ai (aa (vI 1) (af ?_)))
   obtain rfl:=ae a
   exact ay (aK [(vI 1)] ⟨rfl,trivial⟩)
  ·refine aA rfl h (ax (ak (ai (aa (vI b) (aa (vI c) (aa (vB (decide (b<c))) (af ?_)))))))
   rcases aj a with⟨d,a⟩|⟨d,a⟩
   ·refine aB rfl d (ai (aa (vI (-1)) (af ?_)))
    obtain rfl:=ae a
    exact ay (aK [(vI (-1))] ⟨rfl,trivial⟩)
   ·refine aA rfl d (ax (ak (ai (aa (vI b) (aa (vI c) (aa (vB (decide (b>c))) (af ?_)))))))
    rcases aj a with⟨e,a⟩|⟨e,a⟩
    ·refine aB rfl e (ai (aa (vI 1) (af ?_)))
     obtain rfl:=ae a
     exact ay (aK [(vI 1)] ⟨rfl,trivial⟩)
    ·refine aA rfl e (ax (ai (aa (vI 0) (af ?_))))
     obtain rfl:=ae a
     exact ay (aK [(vI 0)] ⟨rfl,trivial⟩)
theorem om {a:ByteArray} {b:ByteArray} {r:Int} (c:gN a b=some r) :
  FnM Tryz.prog 113 [(vS a),(vS b)] [] (vI r) []:=by
 refine FnM.of_wH ⟨Tryz.prog,8,[],[]⟩ rfl Tryz.func113 rfl rfl (lb_ rfl) (by kernel_rfl) ?_
 unfold gN at c
 refine ai (aa (vI 0) (af (ai (aa (vS a) (aa (vS b) (h_ext (PY (f:=141) Tryz.func141 rfl rfl (by kernel_rfl) (by kernel_rfl) _ _) rfl nb141 rfl wz (aa (vI (FN a b)) (af ?_))))))))
 obtain rfl:=ae c
 exact ay (aK [(vI (FN a b))] ⟨rfl,trivial⟩)
theorem rR {b:ByteArray} {c:ByteArray} {r:Int} (a:strings_Compare b c=some r) :
  FnM Tryz.prog 79 [(vS b),(vS c)] [] (vI r) []:=by
 refine FnM.of_wH ⟨Tryz.prog,8,[],[]⟩ rfl Tryz.func79 rfl rfl (lb_ rfl) (by kernel_rfl) ?_
 unfold strings_Compare at a
 refine ai (aa (vI 0) (af (ai (aa (vS b) (aa (vS c) ?_)))))
 obtain ⟨d,e,a⟩:=bind_some a
 refine aD (om e) rfl hb113 rfl rfl rfl rfl wz (aa (vI d) (af ?_))
 obtain rfl:=ae a
 exact ay (aK [(vI d)] ⟨rfl,trivial⟩)
theorem zb {a:(List Int)} {r:Int} (g:pU a=some r) :
  FnM Tryz.prog 77 [(vL eI a)] [] (vI r) []:=by
 refine FnM.of_wH ⟨Tryz.prog,18,[],[]⟩ rfl Tryz.func77 rfl rfl (lb_ rfl) (by kernel_rfl) ?_
 unfold pU at g
 refine ai (aa (vI 0) (af (ai (aa (vI 0) (af (ak (ai (aa (vL eI a) (bL wW rfl wz (aa (vI 0) (af ?_)))))))))))
 obtain ⟨q,j,g⟩:=bind_some g
 obtain ⟨m,j⟩:=aZ j
 refine dh (λ(h:Unit)=>[(3,(vI 0))]) (λ(h:Unit)=>[]) (λ(f:Nat)=>(λ(h:Unit)=>[(3,(vI 0)),(6,(vL eI a)),(7,(vI (a.length:Int))),(8,(vI (f:Int)))])) (λk x s=>pV k x s) q a () j rfl (aJ rfl) ?_ ?_
 ·rintro ⟨f,l,h⟩ ⟨d,c⟩
  dsimp only at d c
  cases l with
  | nil =>
   obtain rfl:=ae d
   refine ai (aa (vB (decide ((f:Int)<(a.length:Int)))) (af ?_))
   refine ak (aA rfl (drop_nil c) (bg ?_))
   exact aY (h) rfl rfl (aJ rfl)
  | cons b l =>
   obtain ⟨u,e,d⟩:=bind_some d
   refine ai (aa (vB (decide ((f:Int)<(a.length:Int)))) (af ?_))
   refine ak (aB rfl (bz c) (ax ?_))
   unfold pV at e
   refine ak (aM (ai (dC lG rfl rfl (bI c) rfl wz (bC sz3 ag3 rfl (vI b) rfl wz (aa (vI b) (af (ai (aa (vI b) (aa (vI 0) (aa (vB (b != 0)) (af ?_)))))))))))
   rcases aj e with⟨i,e⟩|⟨i,e⟩
   ·refine aB rfl i (ai (aa (vI b) (aa (vI b) (af ?_))))
    obtain rfl:=ae e
    obtain rfl:=ae d
    obtain rfl:=ae g
    exact ay (aK [(vI b)] ⟨rfl,trivial⟩)
   ·refine aA rfl i (ax (av (fC (bG c m) wz rfl (aa (vI ((f+1:Nat):Int)) (af ?_)))))
    obtain rfl:=ae e
    exact bf (f+1,l,()) ⟨d,aW c⟩ (ls_ _) rfl (aJ rfl)
 ·rintro h n v t o p
  subst n
  refine aN _ o p (ai (aa (vI 0) (aa (vI 0) (af ?_))))
  obtain rfl:=ae g
  exact ay (aK [(vI 0)] ⟨rfl,trivial⟩)
theorem Cb {b:Alert} {c:Alert} {r:Int} (a:ic b c=some r) :
  FnM Tryz.prog 38 [(.d (.agg (Alert.enc b))),(.d (.agg (Alert.enc c)))] [] (vI r) []:=by
 refine FnM.of_wH ⟨Tryz.prog,17,[],[]⟩ rfl Tryz.func38 rfl rfl (lb_ rfl) (by kernel_rfl) ?_
 unfold ic at a
 refine ai (iW 0 (.inl rfl) (Alert.v b) rfl rfl wz (λk=>iW 0 (.inl rfl) (Alert.v c) rfl rfl wz (λl=>aa (vI 0) (af (ak (bD (aG qB rfl 4 rfl wz (aF 1 0 (.inr (by kernel_rfl)) (λ_ _ ag=>trivial) sz3 ag3 rfl rfl (vI b.At) rfl wz (aG qB rfl 4 rfl wz (aF 3 1 (.inr (by kernel_rfl)) (λ_ _ ag=>⟨.inl ⟨rfl,rfl⟩,trivial⟩) sz3 ag3 rfl rfl (vI c.At) rfl wz ?_))))))))))
 obtain ⟨i,g,a⟩:=bind_some a
 refine aD (sw g) rfl hb78 rfl rfl rfl rfl wz (aG uz rfl 0 rfl wz (aF 6 0 (.inr (by kernel_rfl)) (λ_ _ ag=>⟨.inl ⟨rfl,rfl⟩,⟨.inl ⟨rfl,rfl⟩,trivial⟩⟩) sz9 ag9 rfl rfl (vS b.Id) rfl wz (aG uz rfl 0 rfl wz (aF 8 1 (.inr (by kernel_rfl)) (λ_ _ ag=>⟨.inl ⟨rfl,rfl⟩,⟨.inl ⟨rfl,rfl⟩,⟨.inl ⟨rfl,rfl⟩,trivial⟩⟩⟩) sz9 ag9 rfl rfl (vS c.Id) rfl wz ?_))))
 obtain ⟨j,h,a⟩:=bind_some a
 refine aD (rR h) rfl hb79 rfl rfl rfl rfl wz (eD (([i,j]:List Int).map eI) lG Dt rfl rfl rfl rfl rfl wz ?_)
 obtain ⟨e,f,a⟩:=bind_some a
 refine aD (zb f) rfl hb77 rfl rfl rfl rfl wz (aa (vI e) (af ?_))
 obtain rfl:=ae a
 exact ay (aK [(vI e)] ⟨rfl,trivial⟩)
theorem lT {a:(List Alert)} {r:Int} (c:bO a=some r) :
  FnM Tryz.prog 18 [(vL Alert.enc a)] [] (vI r) []:=by
 refine FnM.of_wH ⟨Tryz.prog,52,[],[]⟩ rfl Tryz.func18 rfl rfl (lb_ rfl) (by kernel_rfl) ?_
 unfold bO at c
 refine ai (aa (vI 0) (af (ak (ai (aa (vL Alert.enc a) (bL zI rfl wz (aa (vB (decide ((a.length:Int)>300))) (af ?_))))))))
 rcases aj c with⟨C,c⟩|⟨C,c⟩
 ·refine aB rfl C (ai (aa (vI 2) (af ?_)))
  obtain rfl:=ae c
  exact ay (aK [(vI 2)] ⟨rfl,trivial⟩)
 ·refine aA rfl C (ax (ak (ai (aa (vL Alert.enc a) (bL zI rfl wz (aa (vI 0) (af ?_)))))))
  obtain ⟨X,G,c⟩:=bind_some c
  obtain ⟨Q,G⟩:=aZ G
  refine dh (λ(w:Unit)=>[(0,(vL Alert.enc a))]) (λ(w:Unit)=>[]) (λ(e:Nat)=>(λ(w:Unit)=>[(0,(vL Alert.enc a)),(12,(vL Alert.enc a)),(13,(vI (a.length:Int))),(14,(vI (e:Int)))])) (λk x s=>cK a k x s) X a () G rfl (aJ rfl) ?_ ?_
  ·rintro ⟨e,K,w⟩ ⟨i,l⟩
   dsimp only at i l
   cases K with
   | nil =>
    obtain rfl:=ae i
    refine ai (aa (vB (decide ((e:Int)<(a.length:Int)))) (af ?_))
    refine ak (aA rfl (drop_nil l) (bg ?_))
    exact aY (w) rfl rfl (aJ rfl)
   | cons y K =>
    obtain ⟨O,b,i⟩:=bind_some i
    refine ai (aa (vB (decide ((e:Int)<(a.length:Int)))) (af ?_))
    refine ak (aB rfl (bz l) (ax ?_))
    unfold cK at b
    refine ak (aM (ai (aa (vI (e:Int)) (dC tF rfl rfl (bI l) rfl wz (bC mG tH rfl (.d (.agg (Alert.enc y))) rfl wz (dP 0 (.inl rfl) z37 rfl wz (λW=>aa (vI (e:Int)) (gy 0 il ft 0 mG rfl rfl (Alert.v y) rfl wz (af (ak (ai (aF 0 0 il ft mG tH rfl rfl (.d (.agg (Alert.enc y))) rfl wz ?_))))))))))))
    obtain ⟨p,R,b⟩:=bind_some b
    refine aD (yY R) rfl hb37 rfl rfl rfl rfl wz (aa (vI p) (af (ai (aa (vI p) (aa (vB (p != 0)) (af ?_))))))
    rcases aj b with⟨A,b⟩|⟨A,b⟩
    ·refine aB rfl A (ai (aa (vI p) (aa (vI p) (af ?_))))
     obtain rfl:=ae b
     obtain rfl:=ae i
     obtain rfl:=ae c
     exact ay (aK [(vI p)] ⟨rfl,trivial⟩)
    ·refine aA rfl A (ax (ak ?_))
     obtain ⟨Z,g,b⟩:=bind_some b
     refine aP [(0,(vL Alert.enc a)),(12,(vL Alert.enc a)),(13,(vI (a.length:Int))),(14,(vI (e:Int))),(35,(vB Z))] [(W,some (.cells 9 (Alert.v y)))] ?_ ?_
     ·refine bD (aa (vI (e:Int)) (aa (vB (decide ((e:Int)>0))) ?_))
      rcases aj g with⟨B,g⟩|⟨B,g⟩
      ·refine aC rfl B wz (aI (vL Alert.enc a) wa rfl (aI (vI (e:Int)) wa rfl (aI (vI (w64 ((e:Int)-1))) wa rfl ?_)))
       obtain ⟨À,U,g⟩:=bind_some g
       refine dC tF rfl rfl U rfl wa (bC mG tH rfl (.d (.agg (Alert.enc À))) rfl wa (aF 8 0 (.inr (by kernel_rfl)) (λ_ _ ag=>trivial) mG tH rfl rfl (.d (.agg (Alert.enc y))) rfl wa ?_))
       obtain ⟨M,T,g⟩:=bind_some g
       refine aD (Cb T) rfl hb38 rfl rfl rfl rfl wa (aI (vB (decide (M>=0))) wa rfl (aa (vB (decide (M>=0))) (af ?_)))
       obtain rfl:=ae g
       exact cu
      ·refine aC rfl B wz (ah (ah (ah (ah (ah (ah (ah (ah (aa (vB false) (af ?_))))))))))
       obtain rfl:=ae g
       exact cu
     ·rintro ⟨⟩ _ N L q t
      refine aN _ q t ?_
      rcases aj b with⟨E,b⟩|⟨E,b⟩
      ·refine aB rfl E (ai (aa (vI 7) (af ?_)))
       obtain rfl:=ae b
       obtain rfl:=ae i
       obtain rfl:=ae c
       exact ay (aK [(vI 7)] ⟨rfl,trivial⟩)
      ·refine aA rfl E (ax (av (fC (bG l Q) wz rfl (aa (vI ((e+1:Nat):Int)) (af ?_)))))
       obtain rfl:=ae b
       exact bf (e+1,K,()) ⟨i,aW l⟩ (ls_ _) rfl (aJ rfl)
  ·rintro w I N L q t
   subst I
   refine aN _ q t (ai (h_mkmap 0 (.inl rfl) wz (λu=>AV (b':=some (bM D.str D.bool ([]:List (ByteArray×Bool)))) 0 rfl rfl (aa (.map u) (af (ak (ai (aa (vL Alert.enc a) (bL zI rfl wz (aa (vI 0) (af ?_)))))))))))
   obtain ⟨Y,H,c⟩:=bind_some c
   obtain ⟨P,H⟩:=aZ H
   refine dh (λ(f:(List (ByteArray×Bool)))=>[]) (λ(f:(List (ByteArray×Bool)))=>[(u,some (bM D.str D.bool f))]) (λ(o:Nat)=>(λ(f:(List (ByteArray×Bool)))=>[(6,(.map u)),(38,(vL Alert.enc a)),(39,(vI (a.length:Int))),(40,(vI (o:Int)))])) (λk x s=>bH k x s) Y a ([]:List (ByteArray×Bool)) H rfl (aJ rfl) ?_ ?_
   ·rintro ⟨o,J,f⟩ ⟨m,j⟩
    dsimp only at m j
    cases J with
    | nil =>
     obtain rfl:=ae m
     refine ai (aa (vB (decide ((o:Int)<(a.length:Int)))) (af ?_))
     refine ak (aA rfl (drop_nil j) (bg ?_))
     exact aY (f) rfl rfl (aJ rfl)
    | cons h J =>
     obtain ⟨O,n,m⟩:=bind_some m
     refine ai (aa (vB (decide ((o:Int)<(a.length:Int)))) (af ?_))
     refine ak (aB rfl (bz j) (ax ?_))
     unfold bH at n
     refine ak (aM (ai (dC tF rfl rfl (bI j) rfl wz (bC mG tH rfl (.d (.agg (Alert.enc h))) rfl wz (dP 0 (.inl rfl) z37 rfl wz (λÁ=>gy 0 il ft 1 mG rfl rfl (Alert.v h) rfl wz (af (ak (ai (aa (.map u) (aG uz rfl 0 rfl wz (aF 0 1 il ft sz9 ag9 rfl rfl (vS h.Id) rfl wz (Rh (eq:=eqS) (kD:=D.str) (vD:=D.bool) (es:=f) (k:=h.Id) (z:=false) 0 0 il ft (λ_ _=>rfl) mt95 (by kernel_rfl) (by kernel_rfl) rfl rfl rfl (vB ((zH eqS f h.Id).getD false)) rfl wz (af ?_))))))))))))))
     rcases aj n with⟨F,n⟩|⟨F,n⟩
     ·refine aB rfl F (ai (aa (vI 6) (af ?_)))
      obtain rfl:=ae n
      obtain rfl:=ae m
      obtain rfl:=ae c
      exact ay (aK [(vI 6)] ⟨rfl,trivial⟩)
     ·refine aA rfl F (ax (av (aa (.map u) (aG uz rfl 0 rfl wz (aF 0 1 il ft sz9 ag9 rfl rfl (vS h.Id) rfl wz (Rl (eq:=eqS) (kD:=D.str) (vD:=D.bool) (es:=f) (k:=h.Id) (v:=true) 0 0 il ft (λ_ _=>rfl) mt95 (by kernel_rfl) rfl rfl rfl rfl wz (af (av (fC (bG j P) wz rfl (aa (vI ((o+1:Nat):Int)) (af ?_)))))))))))
      obtain rfl:=ae n
      exact bf (o+1,J,(BO eqS f h.Id true)) ⟨m,aW j⟩ (ls_ _) rfl (aJ rfl)
   ·rintro f I N L q t
    subst I
    refine aN _ q t (ai (aa (vI 0) (af ?_)))
    obtain rfl:=ae c
    exact ay (aK [(vI 0)] ⟨rfl,trivial⟩)
theorem sK {r:(List ByteArray)} (a:gz  = some r) :
  FnM Tryz.prog 21 [] [] (vL eS r) []:=by
 refine FnM.of_wH ⟨Tryz.prog,2,[],[]⟩ rfl Tryz.func21 rfl rfl (lb_ rfl) (by kernel_rfl) ?_
 unfold gz at a
 refine ai (aa .nil (af (ai (eD (([(⟨#[]⟩:ByteArray),(⟨#[110,101,119]⟩:ByteArray),(⟨#[117,112,100,97,116,101]⟩:ByteArray),(⟨#[99,97,110,99,101,108]⟩:ByteArray)]:List ByteArray).map eS) mI DD rfl rfl rfl rfl rfl wz (aa (vL eS ([(⟨#[]⟩:ByteArray),(⟨#[110,101,119]⟩:ByteArray),(⟨#[117,112,100,97,116,101]⟩:ByteArray),(⟨#[99,97,110,99,101,108]⟩:ByteArray)]:List ByteArray)) (af ?_))))))
 obtain rfl:=ae a
 exact ay (aK [(vL eS ([(⟨#[]⟩:ByteArray),(⟨#[110,101,119]⟩:ByteArray),(⟨#[117,112,100,97,116,101]⟩:ByteArray),(⟨#[99,97,110,99,101,108]⟩:ByteArray)]:List ByteArray))] ⟨rfl,trivial⟩)
theorem wP {x0:Int} {r:ByteArray} (a:strconv_Itoa x0=some r) :
  FnM Tryz.prog 40 [(vI x0)] [] (vS r) [] :=
 itoa_ok Tryz.strconv_Itoa MO a
theorem xh {h:ByteArray} {c:(List Int)} {r:ByteArray} (e:mh h c=some r) :
  FnM Tryz.prog 20 [(vS h),(vL eI c)] [] (vS r) []:=by
 refine FnM.of_wH ⟨Tryz.prog,21,[],[]⟩ rfl Tryz.func20 rfl rfl (lb_ rfl) (by kernel_rfl) ?_
 unfold mh at e
 refine ai (aa (vS (⟨#[]⟩:ByteArray)) (af (ak (ai (aa (vL eI c) (bL wW rfl wz (aa (vI 0) (af ?_))))))))
 obtain ⟨z,i,e⟩:=bind_some e
 obtain ⟨o,i⟩:=aZ i
 refine dh (λ(a:ByteArray)=>[(0,(vS a))]) (λ(a:ByteArray)=>[]) (λ(f:Nat)=>(λ(a:ByteArray)=>[(0,(vS a)),(7,(vL eI c)),(8,(vI (c.length:Int))),(9,(vI (f:Int)))])) (λk x s=>jS k x s) z c h i rfl (aJ rfl) ?_ ?_
 ·rintro ⟨f,j,a⟩ ⟨g,d⟩
  dsimp only at g d
  cases j with
  | nil =>
   obtain rfl:=ae g
   refine ai (aa (vB (decide ((f:Int)<(c.length:Int)))) (af ?_))
   refine ak (aA rfl (drop_nil d) (bg ?_))
   exact aY (a) rfl rfl (aJ rfl)
  | cons l j =>
   obtain ⟨B,b,g⟩:=bind_some g
   refine ai (aa (vB (decide ((f:Int)<(c.length:Int)))) (af ?_))
   refine ak (aB rfl (bz d) (ax ?_))
   unfold jS at b
   refine ak (aM (ai (dC lG rfl rfl (bI d) rfl wz (bC sz3 ag3 rfl (vI l) rfl wz (aa (vI l) (af (av (aa (vS a) (aa (vI l) ?_)))))))))
   obtain ⟨C,u,b⟩:=bind_some b
   refine aD (wP u) rfl hb40 rfl rfl rfl rfl wz ?_
   obtain ⟨E,v,b⟩:=bind_some b
   refine gW rfl rfl v wz ?_
   obtain ⟨m,w,b⟩:=bind_some b
   refine gW rfl rfl w wz (aa (vS m) (af (av (fC (bG d o) wz rfl (aa (vI ((f+1:Nat):Int)) (af ?_))))))
   obtain rfl:=ae b
   exact bf (f+1,j,m) ⟨g,aW d⟩ (ls_ _) rfl (aJ rfl)
 ·rintro a p F A q t
  subst p
  refine aN _ q t (ai (aa (vS a) ?_))
  obtain ⟨n,y,e⟩:=bind_some e
  refine gW rfl rfl y wz (aa (vS n) (af ?_))
  obtain rfl:=ae e
  exact ay (aK [(vS n)] ⟨rfl,trivial⟩)
theorem AO:uS Tryz.prog 19 55 53 9 :=
 OA Tryz.lays166 Tryz.Builder_Extra_166
theorem Az:BldT Tryz.prog 53 9 5 :=
 ⟨by kernel_rfl,by kernel_rfl,by kernel_rfl,by kernel_rfl,by kernel_rfl,rfl⟩
theorem QV:Aw Tryz.prog 22 55 :=
 lenDoes Tryz.lays170
theorem P6:yh Tryz.prog 23 55 :=
 strDoes Tryz.lays169 Tryz.Builder_Extra_169 rfl
theorem zq {c:(List Alert)} {r:ByteArray×Int} (e:nI c=some r) :
  FnM Tryz.prog 5 [(vL Alert.enc c)] [] (.tup [(vS r.1),(vI r.2)]) []:=by
 refine FnM.of_wH ⟨Tryz.prog,89,[5],[]⟩ rfl Tryz.func5 rfl rfl (lb_ rfl) (by kernel_rfl) ?_
 unfold nI at e
 refine ai (aa (vS (⟨#[]⟩:ByteArray)) (aa (vI 0) (af (ak (ai (aa (vL Alert.enc c) ?_))))))
 obtain ⟨G,Ñ,e⟩:=bind_some e
 refine aD (lT Ñ) rfl hb18 rfl rfl rfl rfl wz (aa (vI G) (af (ai (aa (vI G) (aa (vB (G != 0)) (af ?_))))))
 rcases aj e with⟨Q,e⟩|⟨Q,e⟩
 ·refine aB rfl Q (ai (aa (vI G) (aa (vS (⟨#[]⟩:ByteArray)) (aa (vI G) (af ?_)))))
  obtain rfl:=ae e
  exact ay (aK [(vS (⟨#[]⟩:ByteArray)),(vI G)] ⟨rfl,⟨rfl,trivial⟩⟩)
 ·refine aA rfl Q (ax (ai (Rj 0 (.inl rfl) z55 wz (λf=>pX (λÉ=>AV (b':=some (.cells (1048576+55) [.any,gV É 1 ([]:List Int)])) 0 rfl rfl (af (ak (ai (aa (vL Alert.enc c) (bL zI rfl wz (aa (vI 0) (af ?_))))))))))))
  obtain ⟨ç,U,e⟩:=bind_some e
  obtain ⟨Í,U⟩:=aZ U
  refine iq (σ:=(List Int)) (N:=Nm) (λp=>(λ(o:List Int) (w:Nm)=>([(5,(.ref f 0 0))]:SL_)) p.1 p.2) (λp=>(λ(o:List Int) (w:Nm)=>([(f,some (.cells (1048576+55) [.any,(gV w 1 o)])),(w,gB 1 (eK .u8) o)]:Hp)) p.1 p.2) (λ(g:Nat)=>(λp=>(λ(o:List Int) (w:Nm)=>([(5,(.ref f 0 0)),(17,(vL Alert.enc c)),(18,(vI (c.length:Int))),(19,(vI (g:Int)))]:SL_)) p.1 p.2)) (λk x s=>kQ k x s) ç c (([]:List Int),É) U rfl (aJ rfl) ?_ ?_
  ·rintro ⟨g,Ã,o,w⟩ ⟨I,z⟩
   dsimp only at I z
   cases Ã with
   | nil =>
    obtain rfl:=ae I
    refine ai (aa (vB (decide ((g:Int)<(c.length:Int)))) (af ?_))
    refine ak (aA rfl (drop_nil z) (bg ?_))
    exact aY (o,w) rfl rfl (aJ rfl)
   | cons a Ã =>
    obtain ⟨È,b,I⟩:=bind_some I
    refine ai (aa (vB (decide ((g:Int)<(c.length:Int)))) (af ?_))
    refine ak (aB rfl (bz z) (ax ?_))
    unfold kQ at b
    refine ak (aM (ai (dC tF rfl rfl (bI z) rfl wz (bC mG tH rfl (.d (.agg (Alert.enc a))) rfl wz (dP 0 (.inl rfl) z37 rfl wz (λj=>gy 0 il ft 2 mG rfl rfl (Alert.v a) rfl wz (af (ak (bD (aG uz rfl 0 rfl wz (aF 1 2 (.inr (by kernel_rfl)) (λ_ _ ag=>trivial) sz9 ag9 rfl rfl (vS a.Id) rfl wz ?_)))))))))))
    obtain ⟨ð,Õ,b⟩:=bind_some b
    refine gW rfl rfl Õ wz ?_
    obtain ⟨ñ,Ö,b⟩:=bind_some b
    refine gW rfl rfl Ö wz (aG Mr rfl 1 rfl wz (aF 5 2 (.inr (by kernel_rfl)) (λ_ _ ag=>⟨.inl ⟨rfl,rfl⟩,trivial⟩) sz9 ag9 rfl rfl (vS a.Sender) rfl wz ?_))
    obtain ⟨ò,Ø,b⟩:=bind_some b
    refine gW rfl rfl Ø wz ?_
    obtain ⟨ó,Ù,b⟩:=bind_some b
    refine gW rfl rfl Ù wz ?_
    obtain ⟨í,Ð,b⟩:=bind_some b
    refine aD (sK Ð) rfl hb21 rfl rfl rfl rfl wz (aG Aa rfl 2 rfl wz (aF 10 2 (.inr (by kernel_rfl)) (λ_ _ ag=>⟨.inl ⟨rfl,rfl⟩,⟨.inl ⟨rfl,rfl⟩,trivial⟩⟩) sz3 ag3 rfl rfl (vI a.Kind) rfl wz ?_))
    obtain ⟨ê,Ô,b⟩:=bind_some b
    refine dC mI rfl rfl Ô rfl wz (bC sz9 ag9 rfl (vS ê) rfl wz ?_)
    obtain ⟨ô,Ú,b⟩:=bind_some b
    refine gW rfl rfl Ú wz (aG qB rfl 4 rfl wz (aF 15 2 (.inr (by kernel_rfl)) (λ_ _ ag=>⟨.inl ⟨rfl,rfl⟩,⟨.inl ⟨rfl,rfl⟩,⟨.inl ⟨rfl,rfl⟩,trivial⟩⟩⟩) sz3 ag3 rfl rfl (vI a.At) rfl wz (aG IM rfl 5 rfl wz (aF 17 2 (.inr (by kernel_rfl)) (λ_ _ ag=>⟨.inl ⟨rfl,rfl⟩,⟨.inl ⟨rfl,rfl⟩,⟨.inl ⟨rfl,rfl⟩,⟨.inl ⟨rfl,rfl⟩,trivial⟩⟩⟩⟩) sz3 ag3 rfl rfl (vI a.Until) rfl wz (aG MQ rfl 6 rfl wz (aF 19 2 (.inr (by kernel_rfl)) (λ_ _ ag=>⟨.inl ⟨rfl,rfl⟩,⟨.inl ⟨rfl,rfl⟩,⟨.inl ⟨rfl,rfl⟩,⟨.inl ⟨rfl,rfl⟩,⟨.inl ⟨rfl,rfl⟩,trivial⟩⟩⟩⟩⟩) sz3 ag3 rfl rfl (vI a.Weight) rfl wz (eD (([a.At,a.Until,a.Weight]:List Int).map eI) lG Dt rfl rfl rfl rfl rfl wz ?_)))))))
    obtain ⟨î,Ò,b⟩:=bind_some b
    refine aD (xh Ò) rfl hb20 rfl rfl rfl rfl wz ?_
    obtain ⟨P,Û,b⟩:=bind_some b
    refine yG 22 0 1 (.inr (by kernel_rfl)) (λ_ _ ag=>⟨.inr (.inr (by kernel_rfl)),⟨.inr (.inr (by kernel_rfl)),⟨.inr (.inr (by kernel_rfl)),⟨.inr (.inr (by kernel_rfl)),⟨.inr (.inr (by kernel_rfl)),⟨.inr (.inr (by kernel_rfl)),trivial⟩⟩⟩⟩⟩⟩) AO Az rfl hb19 rfl rfl rfl rfl (by decide) Û wz (λÄ=>af (ak (ai (aG qG rfl 3 rfl wz (aF 0 2 il ft Ar Ep rfl rfl (vL eS a.Refs) rfl wz (bL ru rfl wz (aa (vI 0) (af (aN (H0:=([(f,some (.cells (1048576+55) [.any,(gV Ä 1 P)])),(Ä,gB 1 (eK .u8) P),(j,some (.cells 9 (Alert.v a)))]:Hp)) ([(5,(.ref f 0 0)),(7,(.ref j 0 0)),(17,(vL Alert.enc c)),(18,(vI (c.length:Int))),(19,(vI (g:Int))),(47,(vL eS a.Refs)),(48,(vI (a.Refs.length:Int))),(49,(vI 0))]:SL_) (by kernel_rfl) (ul (by kernel_rfl)) ?_)))))))))
    obtain ⟨è,Z,b⟩:=bind_some b
    obtain ⟨Î,Z⟩:=aZ Z
    refine iq (σ:=(List Int)) (N:=Nm) (λp=>(λ(q:List Int) (m:Nm)=>([(5,(.ref f 0 0)),(7,(.ref j 0 0)),(17,(vL Alert.enc c)),(18,(vI (c.length:Int))),(19,(vI (g:Int)))]:SL_)) p.1 p.2) (λp=>(λ(q:List Int) (m:Nm)=>([(f,some (.cells (1048576+55) [.any,(gV m 1 q)])),(m,gB 1 (eK .u8) q),(j,some (.cells 9 (Alert.v a)))]:Hp)) p.1 p.2) (λ(E:Nat)=>(λp=>(λ(q:List Int) (m:Nm)=>([(5,(.ref f 0 0)),(7,(.ref j 0 0)),(17,(vL Alert.enc c)),(18,(vI (c.length:Int))),(19,(vI (g:Int))),(47,(vL eS a.Refs)),(48,(vI (a.Refs.length:Int))),(49,(vI (E:Int)))]:SL_)) p.1 p.2)) (λk x s=>kU k x s) è a.Refs (P,Ä) Z rfl (aJ rfl) ?_ ?_
    ·rintro ⟨E,Á,q,m⟩ ⟨J,A⟩
     dsimp only at J A
     cases Á with
     | nil =>
      obtain rfl:=ae J
      refine ai (aa (vB (decide ((E:Int)<(a.Refs.length:Int)))) (af ?_))
      refine ak (aA rfl (drop_nil A) (bg ?_))
      exact aY (q,m) rfl rfl (aJ rfl)
     | cons Ç Á =>
      obtain ⟨È,l,J⟩:=bind_some J
      refine ai (aa (vB (decide ((E:Int)<(a.Refs.length:Int)))) (af ?_))
      refine ak (aB rfl (bz A) (ax ?_))
      unfold kU at l
      refine ak (aM (ai (dC mI rfl rfl (bI A) rfl wz (bC sz9 ag9 rfl (vS Ç) rfl wz (aa (vS Ç) (af (av (aa (vS Ç) ?_))))))))
      obtain ⟨õ,Ü,l⟩:=bind_some l
      refine gW rfl rfl Ü wz ?_
      obtain ⟨ö,Ý,l⟩:=bind_some l
      refine gW rfl rfl Ý wz ?_
      obtain ⟨Ë,Þ,l⟩:=bind_some l
      refine yG 0 0 1 il ft AO Az rfl hb19 rfl rfl rfl rfl (by decide) Þ wz (λä=>af (av (fC (bG A Î) wz rfl (aa (vI ((E+1:Nat):Int)) (af ?_)))))
      obtain rfl:=ae l
      exact bf (E+1,Á,Ë,ä) ⟨J,aW A⟩ (ls_ _) rfl (aJ rfl)
    ·rintro ⟨q,m⟩ L Å O t u
     subst L
     refine aN _ t u (ak (ai (aG rZ rfl 7 rfl wz (aF 0 2 il ft BZ FJ rfl rfl (vL Rect.enc a.Areas) rfl wz (bL yX rfl wz (aa (vI 0) (af ?_)))))))
     obtain ⟨é,À,b⟩:=bind_some b
     obtain ⟨Ï,À⟩:=aZ À
     refine iq (σ:=(List Int)) (N:=Nm) (λp=>(λ(y:List Int) (n:Nm)=>([(5,(.ref f 0 0)),(7,(.ref j 0 0)),(17,(vL Alert.enc c)),(18,(vI (c.length:Int))),(19,(vI (g:Int)))]:SL_)) p.1 p.2) (λp=>(λ(y:List Int) (n:Nm)=>([(f,some (.cells (1048576+55) [.any,(gV n 1 y)])),(n,gB 1 (eK .u8) y),(j,some (.cells 9 (Alert.v a)))]:Hp)) p.1 p.2) (λ(F:Nat)=>(λp=>(λ(y:List Int) (n:Nm)=>([(5,(.ref f 0 0)),(7,(.ref j 0 0)),(17,(vL Alert.enc c)),(18,(vI (c.length:Int))),(19,(vI (g:Int))),(59,(vL Rect.enc a.Areas)),(60,(vI (a.Areas.length:Int))),(61,(vI (F:Int)))]:SL_)) p.1 p.2)) (λk x s=>kW k x s) é a.Areas (q,m) À rfl (aJ rfl) ?_ ?_
     ·rintro ⟨F,Â,y,n⟩ ⟨K,B⟩
      dsimp only at K B
      cases Â with
      | nil =>
       obtain rfl:=ae K
       refine ai (aa (vB (decide ((F:Int)<(a.Areas.length:Int)))) (af ?_))
       refine ak (aA rfl (drop_nil B) (bg ?_))
       exact aY (y,n) rfl rfl (aJ rfl)
      | cons i Â =>
       obtain ⟨È,C,K⟩:=bind_some K
       refine ai (aa (vB (decide ((F:Int)<(a.Areas.length:Int)))) (af ?_))
       refine ak (aB rfl (bz B) (ax ?_))
       unfold kW at C
       refine ak (aM (ai (dC BI rfl rfl (bI B) rfl wz (bC qw EJ rfl (.d (.agg (Rect.enc i))) rfl wz (dP 0 (.inl rfl) z47 rfl wz (λì=>gy 0 il ft 3 qw rfl rfl (Rect.v i) rfl wz (af (av (aG xw rfl 0 rfl wz (aF 0 3 il ft sz3 ag3 rfl rfl (vI i.X) rfl wz (aG uu rfl 1 rfl wz (aF 0 3 il ft sz3 ag3 rfl rfl (vI i.Y) rfl wz (aG BH rfl 2 rfl wz (aF 0 3 il ft sz3 ag3 rfl rfl (vI i.W) rfl wz (aG zx rfl 3 rfl wz (aF 0 3 il ft sz3 ag3 rfl rfl (vI i.H) rfl wz (eD (([i.X,i.Y,i.W,i.H]:List Int).map eI) lG Dt rfl rfl rfl rfl rfl wz ?_)))))))))))))))))
       obtain ⟨ï,Ó,C⟩:=bind_some C
       refine aD (xh Ó) rfl hb20 rfl rfl rfl rfl wz ?_
       obtain ⟨Ì,ß,C⟩:=bind_some C
       refine yG 0 0 1 il ft AO Az rfl hb19 rfl rfl rfl rfl (by decide) ß wz (λå=>af (av (fC (bG B Ï) wz rfl (aa (vI ((F+1:Nat):Int)) (af ?_)))))
       obtain rfl:=ae C
       exact bf (F+1,Â,Ì,å) ⟨K,aW B⟩ (ls_ _) rfl (aJ rfl)
     ·rintro ⟨y,n⟩ L Å O t u
      subst L
      refine aN _ t u (ai (aG sZ rfl 8 rfl wz (aF 0 2 il ft sz9 ag9 rfl rfl (vS a.Text) rfl wz (aa (vB (sNe a.Text (⟨#[]⟩:ByteArray))) (af ?_)))))
      obtain ⟨Æ,h,b⟩:=bind_some b
      refine lD (β:=Nm) (λ(M:Nm)=>([(5,(.ref f 0 0)),(17,(vL Alert.enc c)),(18,(vI (c.length:Int))),(19,(vI (g:Int)))]:SL_)) (λ(M:Nm)=>([(f,some (.cells (1048576+55) [.any,(gV M 1 Æ)])),(M,gB 1 (eK .u8) Æ),(j,some (.cells 9 (Alert.v a)))]:Hp)) (λ_=>True) ?_ ?_
      ·rcases aj h with⟨R,h⟩|⟨R,h⟩
       ·refine aB rfl R (av (aG sZ rfl 8 rfl wz (aF 0 2 il ft sz9 ag9 rfl rfl (vS a.Text) rfl wz ?_)))
        obtain ⟨ø,à,h⟩:=bind_some h
        refine gW rfl rfl à wz ?_
        obtain ⟨ù,á,h⟩:=bind_some h
        refine gW rfl rfl á wz ?_
        obtain ⟨ë,â,h⟩:=bind_some h
        refine yG 0 0 1 il ft AO Az rfl hb19 rfl rfl rfl rfl (by decide) â wz (λæ=>af ?_)
        obtain rfl:=ae h
        exact aY æ trivial rfl (aJ rfl)
       ·refine aA rfl R (ax ?_)
        obtain rfl:=ae h
        exact aY n trivial rfl (aJ rfl)
      ·rintro M _ Å O t u
       refine aN _ t u (av (fC (bG z Í) wz rfl (aa (vI ((g+1:Nat):Int)) (af ?_))))
       obtain rfl:=ae b
       exact bf (g+1,Ã,Æ,M) ⟨I,aW z⟩ (ls_ _) rfl (aJ rfl)
  ·rintro ⟨o,w⟩ L Å O t u
   subst L
   refine aN _ t u (ak (ai (h_blenL 0 0 1 il ft QV rfl hb22 rfl rfl rfl (by decide) wz (aa (vB (decide ((o.length:Int)>200000))) (af ?_)))))
   rcases aj e with⟨T,e⟩|⟨T,e⟩
   ·refine aB rfl T (ai (aa (vS (⟨#[]⟩:ByteArray)) (aa (vI 2) (af ?_))))
    obtain rfl:=ae e
    exact ay (aK [(vS (⟨#[]⟩:ByteArray)),(vI 2)] ⟨rfl,⟨rfl,trivial⟩⟩)
   ·refine aA rfl T (ax (ai ?_))
    obtain ⟨Ê,ã,e⟩:=bind_some e
    refine h_bstrL 0 0 1 il ft P6 rfl hb23 rfl rfl rfl (by decide) ã wz (aa (vS Ê) (aa (vI 0) (af ?_)))
    obtain rfl:=ae e
    exact ay (aK [(vS Ê),(vI 0)] ⟨rfl,⟨rfl,trivial⟩⟩)
theorem uC {x0:ByteArray} {x1:ByteArray} {r:(List ByteArray)} (a:strings_Split x0 x1=some r) :
  FnM Tryz.prog 41 [(vS x0),(vS x1)] [] (vL eS r) [] :=
 P9 rfl Tryz.strings_Split De a
theorem Iw {d:ByteArray} {r:(List ByteArray)×Bool} (a:yC d=some r) :
  FnM Tryz.prog 24 [(vS d)] [] (.tup [(vL eS r.1),(vB r.2)]) []:=by
 refine FnM.of_wH ⟨Tryz.prog,19,[],[]⟩ rfl Tryz.func24 rfl rfl (lb_ rfl) (by kernel_rfl) ?_
 unfold yC at a
 refine ai (aa .nil (aa (vB false) (af (ai (aa (vS d) ?_)))))
 obtain ⟨b,g,a⟩:=bind_some a
 refine aD (uC g) rfl hb41 rfl rfl rfl rfl wz (aa (vL eS b) (af (ai (aa (vL eS b) (bL ru rfl wz (aa (vI (w64 ((b.length:Int)-1))) (aa (vI (w64 ((b.length:Int)-1))) (af (ak (ai (aa (vL eS b) (aa (vI (w64 ((b.length:Int)-1))) ?_))))))))))))
 obtain ⟨e,h,a⟩:=bind_some a
 refine dC mI rfl rfl h rfl wz (bC sz9 ag9 rfl (vS e) rfl wz (aa (vB (sEq e (⟨#[]⟩:ByteArray))) (af ?_)))
 rcases aj a with⟨c,a⟩|⟨c,a⟩
 ·refine aB rfl c (ai (aa (vL eS b) (aa (vI (w64 ((b.length:Int)-1))) ?_)))
  obtain ⟨f,i,a⟩:=bind_some a
  refine wN ru sz9 (λ_=>rfl) rfl rfl i wz (aa (vL eS f) (aa (vB true) (af ?_)))
  obtain rfl:=ae a
  exact ay (aK [(vL eS f),(vB true)] ⟨rfl,⟨rfl,trivial⟩⟩)
 ·refine aA rfl c (ax (ai (aa (vL eS b) (aa (vL eS b) (aa (vB false) (af ?_))))))
  obtain rfl:=ae a
  exact ay (aK [(vL eS b),(vB false)] ⟨rfl,⟨rfl,trivial⟩⟩)
theorem jo {c:ByteArray} {a:ByteArray} {r:Bool} (d:bQ c a=some r) :
  FnM Tryz.prog 118 [(vS c),(vS a)] [] (vB r) []:=by
 refine FnM.of_wH ⟨Tryz.prog,18,[],[]⟩ rfl Tryz.func118 rfl rfl (lb_ rfl) (by kernel_rfl) ?_
 unfold bQ at d
 refine ai (aa (vB false) (af (ak ?_)))
 obtain ⟨g,b,d⟩:=bind_some d
 refine aP [(4,(vB g))] [] ?_ ?_
 ·refine av (aa (vS c) (oK un9 rfl wz (aa (vS a) (oK un9 rfl wz (aa (vB (decide ((c.size:Int)>=(a.size:Int)))) ?_)))))
  rcases aj b with⟨e,b⟩|⟨e,b⟩
  ·refine aC rfl e wz (aI (vS c) wa rfl (aI (vS a) wa rfl (oK un9 rfl wa ?_)))
   obtain ⟨f,j,b⟩:=bind_some b
   refine oV un9 rfl rfl j wa (aI (vS a) wa rfl (aI (vB (sEq f a)) wa rfl (aa (vB (sEq f a)) (aa (vB (sEq f a)) (af ?_)))))
   obtain rfl:=ae b
   exact cu
  ·refine aC rfl e wz (ah (ah (ah (ah (ah (ah (aa (vB false) (aa (vB false) (af ?_)))))))))
   obtain rfl:=ae b
   exact cu
 ·rintro ⟨⟩ _ l k h i
  refine aN _ h i ?_
  obtain rfl:=ae d
  exact ay (aK [(vB g)] ⟨rfl,trivial⟩)
theorem ol {b:ByteArray} {c:ByteArray} {r:ByteArray×Bool} (a:eG b c=some r) :
  FnM Tryz.prog 83 [(vS b),(vS c)] [] (.tup [(vS r.1),(vB r.2)]) []:=by
 refine FnM.of_wH ⟨Tryz.prog,15,[],[]⟩ rfl Tryz.func83 rfl rfl (lb_ rfl) (by kernel_rfl) ?_
 unfold eG at a
 refine ai (aa (vS (⟨#[]⟩:ByteArray)) (aa (vB false) (af (ak (ai (aa (vS b) (aa (vS c) ?_)))))))
 obtain ⟨h,f,a⟩:=bind_some a
 refine aD (jo f) rfl hb118 rfl rfl rfl rfl wz (aa (vB (!h)) (af ?_))
 rcases aj a with⟨d,a⟩|⟨d,a⟩
 ·refine aB rfl d (ai (aa (vS b) (aa (vS b) (aa (vB false) (af ?_)))))
  obtain rfl:=ae a
  exact ay (aK [(vS b),(vB false)] ⟨rfl,⟨rfl,trivial⟩⟩)
 ·refine aA rfl d (ax (ai (aa (vS b) (aa (vS c) (oK un9 rfl wz ?_)))))
  obtain ⟨e,g,a⟩:=bind_some a
  refine mr un9 rfl rfl g wz (aa (vS e) (aa (vB true) (af ?_)))
  obtain rfl:=ae a
  exact ay (aK [(vS e),(vB true)] ⟨rfl,⟨rfl,trivial⟩⟩)
theorem xQ {d:ByteArray} {c:ByteArray} {r:ByteArray×Bool} (b:strings_CutPrefix d c=some r) :
  FnM Tryz.prog 42 [(vS d),(vS c)] [] (.tup [(vS r.1),(vB r.2)]) []:=by
 refine FnM.of_wH ⟨Tryz.prog,11,[],[]⟩ rfl Tryz.func42 rfl rfl (lb_ rfl) (by kernel_rfl) ?_
 unfold strings_CutPrefix at b
 refine ai (aa (vS (⟨#[]⟩:ByteArray)) (aa (vB false) (af (ai (aa (vS d) (aa (vS c) ?_))))))
 obtain ⟨a,e,b⟩:=bind_some b
 refine aD (ol e) rfl hb83 rfl rfl rfl rfl wz (aa (vS a.1) (aa (vB a.2) (aa (vS a.1) (aa (vB a.2) (af ?_)))))
 obtain rfl:=ae b
 exact ay (aK [(vS a.1),(vB a.2)] ⟨rfl,⟨rfl,trivial⟩⟩)
theorem ku {b:(List ByteArray)} {f:ByteArray} {r:Int} (g:bu b f=some r) :
  FnM Tryz.prog 44 [(vL eS b),(vS f)] [] (vI r) []:=by
 refine FnM.of_wH ⟨Tryz.prog,19,[],[]⟩ rfl Tryz.func44 rfl rfl (lb_ rfl) (by kernel_rfl) ?_
 unfold bu at g
 refine ai (aa (vI 0) (af (ak (ai (aa (vL eS b) (bL ru rfl wz (aa (vI 0) (af ?_))))))))
 obtain ⟨t,j,g⟩:=bind_some g
 obtain ⟨n,j⟩:=aZ j
 refine dh (λ(h:Unit)=>[]) (λ(h:Unit)=>[]) (λ(a:Nat)=>(λ(h:Unit)=>[(0,(vL eS b)),(1,(vS f)),(7,(vI (b.length:Int))),(8,(vI (a:Int)))])) (λk x s=>bA f k x s) t b () j rfl (aJ rfl) ?_ ?_
 ·rintro ⟨a,l,h⟩ ⟨d,c⟩
  dsimp only at d c
  cases l with
  | nil =>
   obtain rfl:=ae d
   refine ai (aa (vB (decide ((a:Int)<(b.length:Int)))) (af ?_))
   refine ak (aA rfl (drop_nil c) (bg ?_))
   exact aY (h) rfl rfl (aJ rfl)
  | cons m l =>
   obtain ⟨v,e,d⟩:=bind_some d
   refine ai (aa (vB (decide ((a:Int)<(b.length:Int)))) (af ?_))
   refine ak (aB rfl (bz c) (ax ?_))
   unfold bA at e
   refine ak (aM (ai (aa (vI (a:Int)) (aa (vI (a:Int)) (af (ai (aa (vS f) (aa (vL eS b) (aa (vI (a:Int)) (dC mI rfl rfl (bI c) rfl wz (bC sz9 ag9 rfl (vS m) rfl wz (aa (vB (sEq f m)) (af ?_)))))))))))))
   rcases aj e with⟨i,e⟩|⟨i,e⟩
   ·refine aB rfl i (ai (aa (vI (a:Int)) (aa (vI (a:Int)) (af ?_))))
    obtain rfl:=ae e
    obtain rfl:=ae d
    obtain rfl:=ae g
    exact ay (aK [(vI (a:Int))] ⟨rfl,trivial⟩)
   ·refine aA rfl i (ax (av (fC (bG c n) wz rfl (aa (vI ((a+1:Nat):Int)) (af ?_)))))
    obtain rfl:=ae e
    exact bf (a+1,l,()) ⟨d,aW c⟩ (ls_ _) rfl (aJ rfl)
 ·rintro h o w u p q
  subst o
  refine aN _ p q (ai (aa (vI (-1)) (af ?_)))
  obtain rfl:=ae g
  exact ay (aK [(vI (-1))] ⟨rfl,trivial⟩)
theorem oI {c:(List ByteArray)} {d:ByteArray} {r:Bool} (a:bU c d=some r) :
  FnM Tryz.prog 84 [(vL eS c),(vS d)] [] (vB r) []:=by
 refine FnM.of_wH ⟨Tryz.prog,9,[],[]⟩ rfl Tryz.func84 rfl rfl (lb_ rfl) (by kernel_rfl) ?_
 unfold bU at a
 refine ai (aa (vB false) (af (ai (aa (vL eS c) (aa (vS d) ?_)))))
 obtain ⟨b,e,a⟩:=bind_some a
 refine aD (ku e) rfl hb44 rfl rfl rfl rfl wz (aa (vB (decide (b>=0))) (aa (vB (decide (b>=0))) (af ?_)))
 obtain rfl:=ae a
 exact ay (aK [(vB (decide (b>=0)))] ⟨rfl,trivial⟩)
theorem Jd {d:ByteArray} {r:(List ByteArray)×Bool} (a:nY d=some r) :
  FnM Tryz.prog 43 [(vS d)] [] (.tup [(vL eS r.1),(vB r.2)]) []:=by
 refine FnM.of_wH ⟨Tryz.prog,11,[],[]⟩ rfl Tryz.func43 rfl rfl (lb_ rfl) (by kernel_rfl) ?_
 unfold nY at a
 refine ai (aa .nil (aa (vB false) (af (ai (aa (vS d) ?_)))))
 obtain ⟨b,e,a⟩:=bind_some a
 refine aD (uC e) rfl hb41 rfl rfl rfl rfl wz (aa (vL eS b) (af (ai (aa (vL eS b) (aa (vL eS b) ?_)))))
 obtain ⟨c,f,a⟩:=bind_some a
 refine aD (oI f) rfl hb84 rfl rfl rfl rfl wz (aa (vB (!c)) (aa (vL eS b) (aa (vB (!c)) (af ?_))))
 obtain rfl:=ae a
 exact ay (aK [(vL eS b),(vB (!c))] ⟨rfl,⟨rfl,trivial⟩⟩)
theorem nR {b:ByteArray} {c:ByteArray} {r:ByteArray} (a:dB b c=some r) :
  FnM Tryz.prog 150 [(vS b),(vS c)] [] (vS r) []:=by
 refine FnM.of_wH ⟨Tryz.prog,13,[],[]⟩ rfl Tryz.func150 rfl rfl (lb_ rfl) (by kernel_rfl) ?_
 unfold dB at a
 refine ai (aa (vS (⟨#[]⟩:ByteArray)) (af (ak (ai (aa (vS b) (aa (vS c) ?_))))))
 obtain ⟨h,f,a⟩:=bind_some a
 refine aD (jo f) rfl hb118 rfl rfl rfl rfl wz (af ?_)
 rcases aj a with⟨d,a⟩|⟨d,a⟩
 ·refine aB rfl d (ai (aa (vS b) (aa (vS c) (oK un9 rfl wz ?_))))
  obtain ⟨e,g,a⟩:=bind_some a
  refine mr un9 rfl rfl g wz (aa (vS e) (af ?_))
  obtain rfl:=ae a
  exact ay (aK [(vS e)] ⟨rfl,trivial⟩)
 ·refine aA rfl d (ax (ai (aa (vS b) (aa (vS b) (af ?_)))))
  obtain rfl:=ae a
  exact ay (aK [(vS b)] ⟨rfl,trivial⟩)
theorem wX {c:ByteArray} {b:ByteArray} {r:ByteArray} (a:strings_TrimPrefix c b=some r) :
  FnM Tryz.prog 119 [(vS c),(vS b)] [] (vS r) []:=by
 refine FnM.of_wH ⟨Tryz.prog,8,[],[]⟩ rfl Tryz.func119 rfl rfl (lb_ rfl) (by kernel_rfl) ?_
 unfold strings_TrimPrefix at a
 refine ai (aa (vS (⟨#[]⟩:ByteArray)) (af (ai (aa (vS c) (aa (vS b) ?_)))))
 obtain ⟨d,e,a⟩:=bind_some a
 refine aD (nR e) rfl hb150 rfl rfl rfl rfl wz (aa (vS d) (af ?_))
 obtain rfl:=ae a
 exact ay (aK [(vS d)] ⟨rfl,trivial⟩)
theorem strconv_Atoi_ok {x0:ByteArray} {r:Int} (a:strconv_Atoi x0=some r) :
  FnM Tryz.prog 120 [(.d (.str x0))] [] (.tup [(.d (.int .i64 r)),.nili]) [] :=
 atoi_ok rfl Tryz.strconv_Atoi a
theorem Gt {f:ByteArray} {l:Int} {r:Int×Bool} (a:nS f l=some r) :
  FnM Tryz.prog 85 [(vS f),(vI l)] [] (.tup [(vI r.1),(vB r.2)]) []:=by
 refine FnM.of_wH ⟨Tryz.prog,53,[],[]⟩ rfl Tryz.func85 rfl rfl (lb_ rfl) (by kernel_rfl) ?_
 unfold nS at a
 refine ai (aa (vI 0) (aa (vB false) (af (ai (aa (vS f) ?_)))))
 obtain ⟨c,F,a⟩:=bind_some a
 refine aD (wX F) rfl hb119 rfl rfl rfl rfl wz (aa (vS c) (af (ak (ak ?_))))
 obtain ⟨M,b,a⟩:=bind_some a
 refine aP [(0,(vS f)),(6,(vS c)),(28,(vB M))] [] ?_ ?_
 ·refine av (aa (vS c) (aa (vB (sEq c (⟨#[]⟩:ByteArray))) ?_))
  rcases aj b with⟨u,b⟩|⟨u,b⟩
  ·refine aC rfl u wz (ah (ah (ah (ah (aa (vB true) (aa (vB true) (ah (ah (ah (ah (bR (wn rfl rfl) (bR (wn rfl rfl) (ah (aa (vB true) (af ?_)))))))))))))))
   obtain rfl:=ae b
   exact cu
  ·refine aC rfl u wz (aI (vS c) wa rfl (oK un9 rfl wa (aI (vI l) wa rfl (aI (vB (decide ((c.size:Int)>l))) wa rfl (aa (vB (decide ((c.size:Int)>l))) ?_)))))
   rcases aj b with⟨v,b⟩|⟨v,b⟩
   ·refine aC rfl v wz (ah (ah (ah (ah (bR (wn rfl rfl) (bR (wn rfl rfl) (ah (aa (vB true) (af ?_)))))))))
    obtain rfl:=ae b
    exact cu
   ·refine aC rfl v wz (aI (vS c) wa rfl ?_)
    obtain ⟨B,G,b⟩:=bind_some b
    refine xI un9 rfl rfl G wa (aI (vB ((B.toNat:Int)==48)) wa rfl ?_)
    rcases aj b with⟨n,b⟩|⟨n,b⟩
    ·refine aC rfl n wa (aI (vS f) wa rfl (aI (vB (sNe f (⟨#[48]⟩:ByteArray))) wa rfl (aI (vB (sNe f (⟨#[48]⟩:ByteArray))) wa rfl (aa (vB (sNe f (⟨#[48]⟩:ByteArray))) (af ?_)))))
     obtain rfl:=ae b
     exact cu
    ·refine aC rfl n wa (ah (ah (aI (vB false) wa rfl (aa (vB false) (af ?_)))))
     obtain rfl:=ae b
     exact cu
 ·rintro ⟨⟩ _ z x j k
  refine aN _ j k ?_
  rcases aj a with⟨o,a⟩|⟨o,a⟩
  ·refine aB rfl o (ai (aa (vI 0) (aa (vB false) (af ?_))))
   obtain rfl:=ae a
   exact ay (aK [(vI 0),(vB false)] ⟨rfl,⟨rfl,trivial⟩⟩)
  ·refine aA rfl o (ax (ak (ai (aa (vI 0) (af ?_)))))
   obtain ⟨K,w,a⟩:=bind_some a
   obtain ⟨J,w⟩:=fe w
   refine iA (λ(d:Int)=>[(0,(vS f))]) (λ(d:Int)=>[]) (λ(m:Nat)=>(λ(d:Int)=>[(0,(vS f)),(6,(vS c)),(7,(vI d))])) (λs=>gZ c s) K J 0 w rfl (aJ rfl) ?_ ?_
   ·rintro ⟨m,d⟩ h
    dsimp only at h
    cases m with
    | zero=>cases h
    | succ m =>
     obtain ⟨N,e,h⟩:=bind_some h
     unfold gZ at e
     refine ak (ai (aa (vI d) (aa (vS c) (oK un9 rfl wz (aa (vB (decide (d<(c.size:Int)))) (af ?_))))))
     rcases aj e with⟨p,e⟩|⟨p,e⟩
     ·refine aB rfl p (ax (ak (aM (ak ?_))))
      obtain ⟨L,g,e⟩:=bind_some e
      refine aP [(0,(vS f)),(6,(vS c)),(7,(vI d)),(44,(vB L))] [] ?_ ?_
      ·refine av (aa (vS c) (aa (vI d) ?_))
       obtain ⟨A,H,g⟩:=bind_some g
       refine xI un9 rfl rfl H wz (aa (vB (decide ((A.toNat:Int)<48))) ?_)
       rcases aj g with⟨q,g⟩|⟨q,g⟩
       ·refine aC rfl q wz (ah (ah (ah (ah (aa (vB true) (af ?_))))))
        obtain rfl:=ae g
        exact cu
       ·refine aC rfl q wz (aI (vS c) wa rfl (aI (vI d) wa rfl ?_))
        obtain ⟨y,I,g⟩:=bind_some g
        refine xI un9 rfl rfl I wa (aI (vB (decide ((y.toNat:Int)>57))) wa rfl (aa (vB (decide ((y.toNat:Int)>57))) (af ?_)))
        obtain rfl:=ae g
        exact cu
      ·rintro ⟨⟩ _ z x j k
       refine aN _ j k ?_
       rcases aj e with⟨t,e⟩|⟨t,e⟩
       ·refine aB rfl t (ai (aa (vI 0) (aa (vB false) (af ?_))))
        obtain rfl:=ae e
        obtain rfl:=ae h
        obtain rfl:=ae a
        exact ay (aK [(vI 0),(vB false)] ⟨rfl,⟨rfl,trivial⟩⟩)
       ·refine aA rfl t (ax (av (aa (vI d) (aa (vI (w64 (d+1))) (aa (vI (w64 (d+1))) (af ?_))))))
        obtain rfl:=ae e
        exact bf (m,(w64 (d+1))) h (ls_ _) rfl (aJ rfl)
     ·refine aA rfl p (bg ?_)
      obtain rfl:=ae e
      obtain rfl:=ae h
      exact aY (d) rfl rfl (aJ rfl)
   ·rintro d C z x j k
    subst C
    refine aN _ j k (ai (aa (vS f) ?_))
    obtain ⟨i,E,a⟩:=bind_some a
    refine aD (strconv_Atoi_ok E) rfl hb120 rfl rfl rfl rfl wz (aa (.tup [(vI i),.nili]) (aa (vI i) (aa .nili (aa (vI i) (aa .nili (af (ak (bD (aa (vI i) (aa .nili (h_ieq if57 rfl rfl rfl wz (aa (vI i) (aa (vB true) (af ?_))))))))))))))
    obtain rfl:=ae a
    exact ay (aK [(vI i),(vB true)] ⟨rfl,⟨rfl,trivial⟩⟩)
theorem uI {e:(List ByteArray)} {r:(List Int)×Bool} (j:fP e=some r) :
  FnM Tryz.prog 45 [(vL eS e)] [] (.tup [(vL eI r.1),(vB r.2)]) []:=by
 refine FnM.of_wH ⟨Tryz.prog,28,[],[]⟩ rfl Tryz.func45 rfl rfl (lb_ rfl) (by kernel_rfl) ?_
 unfold fP at j
 refine ai (aa .nil (aa (vB false) (af (ai (aa .nil (af (ak (ai (aa (vL eS e) (bL ru rfl wz (aa (vI 0) (af (mR (λB => ?_))))))))))))))
 obtain ⟨C,m,j⟩:=bind_some j
 obtain ⟨u,m⟩:=aZ m
 refine iq (σ:=(List Int)) (N:=Nm) (λp=>(λ(a:List Int) (b:Nm)=>([(4,(gV b 1 a))]:SL_)) p.1 p.2) (λp=>(λ(a:List Int) (b:Nm)=>([(b,gB 1 eI a)]:Hp)) p.1 p.2) (λ(h:Nat)=>(λp=>(λ(a:List Int) (b:Nm)=>([(4,(gV b 1 a)),(9,(vL eS e)),(10,(vI (e.length:Int))),(11,(vI (h:Int)))]:SL_)) p.1 p.2)) (λk x s=>di k x s) C e (([]:List Int),B) m rfl (aJ rfl) ?_ ?_
 ·rintro ⟨h,n,a,b⟩ ⟨g,f⟩
  dsimp only at g f
  cases n with
  | nil =>
   obtain rfl:=ae g
   refine ai (aa (vB (decide ((h:Int)<(e.length:Int)))) (af ?_))
   refine ak (aA rfl (drop_nil f) (bg ?_))
   exact aY (a,b) rfl rfl (aJ rfl)
  | cons o n =>
   obtain ⟨F,c,g⟩:=bind_some g
   refine ai (aa (vB (decide ((h:Int)<(e.length:Int)))) (af ?_))
   refine ak (aB rfl (bz f) (ax ?_))
   unfold di at c
   refine ak (aM (ai (dC mI rfl rfl (bI f) rfl wz (bC sz9 ag9 rfl (vS o) rfl wz (aa (vS o) (af (ai (aa (vS o) ?_))))))))
   obtain ⟨d,z,c⟩:=bind_some c
   refine aD (Gt z) rfl hb85 rfl rfl rfl rfl wz (aa (.tup [(vI d.1),(vB d.2)]) (aa (vI d.1) (aa (vB d.2) (aa (vI d.1) (aa (vB d.2) (af (ak (ai (aa (vB d.2) (aa (vB (!d.2)) (af ?_)))))))))))
   rcases aj c with⟨l,c⟩|⟨l,c⟩
   ·refine aB rfl l (ai (aa .nil (aa (vB false) (af ?_))))
    obtain rfl:=ae c
    obtain rfl:=ae g
    obtain rfl:=ae j
    exact ay (aK [.nil,(vB false)] ⟨rfl,⟨rfl,trivial⟩⟩)
   ·refine aA rfl l (ax (av (aa (gV b 1 a) (aa (vI d.1) (eD (([d.1]:List Int).map eI) lG Dt rfl rfl rfl rfl rfl wz ?_)))))
    obtain ⟨q,A,c⟩:=bind_some c
    refine kY 0 il ft (i:=0) PO PO sz3 z3 rfl (by decide) by3 (by decide) (λ_=>rfl) rfl rfl rfl A wz (λt=>aa (gV t 1 q) (af (av (fC (bG f u) wz rfl (aa (vI ((h+1:Nat):Int)) (af ?_))))))
    obtain rfl:=ae c
    exact bf (h+1,n,q,t) ⟨g,aW f⟩ (ls_ _) rfl (aJ rfl)
 ·rintro ⟨a,b⟩ v G E w y
  subst v
  refine aN _ w y (ai (aa (gV b 1 a) (aa (gV b 1 a) (aa (vB true) (af (ig 0 rfl (fT 2 0 rfl rfl (fT 4 0 rfl rfl (fT 27 0 rfl rfl ?_)))))))))
  obtain rfl:=ae j
  exact ay (aK [(vL eI a),(vB true)] ⟨rfl,⟨rfl,trivial⟩⟩)
theorem AC {b:(List Alert)} {K:ByteArray} {r:(List Alert)×Bool} (c:alert_readLine b K=some r) :
  QR Alert.al Tryz.prog 25 [(gV (au 0) 9 b),(vS K)] [] (λ_=>[]) b r.1 (λv_ => .tup [v_,(vB r.2)]):=by
 refine FnM.of_wHal Alert.al ⟨Tryz.prog,196,[100101,100101],[]⟩ rfl Tryz.func25 rfl rfl (lb_ rfl) (by kernel_rfl) (λ_ _=>rfl) (λ_ _ h_=>al_ro h_) (λ_=>rfl) (λ_ _=>rfl) (λ_ _ _=>rfl) ?_
 unfold alert_readLine at c
 show wH _ _ _ _ ([((au 0),Alert.al.box b (Alert.al.exA 0 b) (Alert.al.exB 0 b)),((Alert.al.exA 0 b),gB 1 eS (dw Alert.Refs b)),((Alert.al.exB 0 b),gB 4 Rect.enc (dw Alert.Areas b))]:Hp)
 refine ai (aa .nil (aa (vB false) (af (ak (ai (aa (vS K) ?_))))))
 obtain ⟨j,Ü,c⟩:=bind_some c
 refine aD (xQ Ü) rfl hb42 rfl rfl rfl rfl wz (aa (.tup [(vS j.1),(vB j.2)]) (aa (vS j.1) (aa (vB j.2) (aa (vS j.1) (aa (vB j.2) (af (ai (aa (vB j.2) (af ?_)))))))))
 rcases aj c with⟨W,c⟩|⟨W,c⟩
 ·refine aB rfl W (ak (ak ?_))
  obtain ⟨ù,n,c⟩:=bind_some c
  refine aP [(0,(gV (au 0) 9 b)),(6,(vS j.1)),(38,(vB ù))] [((au 0),Alert.al.box b (Alert.al.exA 0 b) (Alert.al.exB 0 b)),((Alert.al.exA 0 b),gB 1 eS (dw Alert.Refs b)),((Alert.al.exB 0 b),gB 4 Rect.enc (dw Alert.Areas b))] ?_ ?_
  ·refine av (aa (gV (au 0) 9 b) (rG zI rfl wz (aa (vB ((b.length:Int)==0)) ?_)))
   rcases aj n with⟨Â,n⟩|⟨Â,n⟩
   ·refine aC rfl Â wz (ah (ah (aa (vB true) (aa (vB true) (ah (ah (ah (ah (ah (ah (ah (ah (aa (vB true) (af ?_))))))))))))))
    obtain rfl:=ae n
    exact cu
   ·refine aC rfl Â wz (aI (vS j.1) wa rfl (aI (vB (sEq j.1 (⟨#[]⟩:ByteArray))) wa rfl (aa (vB (sEq j.1 (⟨#[]⟩:ByteArray))) ?_)))
    rcases aj n with⟨Æ,n⟩|⟨Æ,n⟩
    ·refine aC rfl Æ wz (ah (ah (ah (ah (ah (ah (ah (ah (aa (vB true) (af ?_))))))))))
     obtain rfl:=ae n
     exact cu
    ·refine aC rfl Æ wz (aI (gV (au 0) 9 b) wa rfl (aI (gV (au 0) 9 b) wa rfl (rG zI rfl wa (aI (vI (w64 ((b.length:Int)-1))) wa rfl ?_))))
     obtain ⟨_,Î,n⟩:=bind_some n
     refine vo tF rfl rfl (lC Î) (iR Î) wa (aG sZ rfl 8 rfl wa ?_)
     obtain ⟨M,Þ,n⟩:=bind_some n
     refine Lr Alert.al 0 0 il ft sz9 ag9 rfl rfl Þ (vS M.Text) rfl wa (aI (vB (sNe M.Text (⟨#[]⟩:ByteArray))) wa rfl (aa (vB (sNe M.Text (⟨#[]⟩:ByteArray))) (af ?_)))
     obtain rfl:=ae n
     exact cu
  ·rintro ⟨⟩ _ B z q s
   refine aN _ q s ?_
   rcases aj c with⟨O,c⟩|⟨O,c⟩
   ·refine aB rfl O (ai (aa (gV (au 0) 9 b) (aa (gV (au 0) 9 b) (aa (vB false) (af ?_)))))
    obtain rfl:=ae c
    refine ay ?_
    exact⟨.inr rfl,[(gV (au 0) 9 b),(vB false)],(au 0),(Alert.al.exA 0 b),(Alert.al.exB 0 b),0,1,2,⟨rfl,⟨rfl,trivial⟩⟩,rfl,rfl,rfl,rfl,rfl,⟨Nat.le_of_ble_eq_true rfl,Nat.le_of_ble_eq_true rfl,Nat.le_of_ble_eq_true rfl⟩,by decide,by decide,by decide⟩
   ·refine aA rfl O (ax (ai (aa (gV (au 0) 9 b) (aa (gV (au 0) 9 b) (rG zI rfl wz (aa (vI (w64 ((b.length:Int)-1))) (aa (vS j.1) ?_)))))))
    obtain ⟨_,Ï,c⟩:=bind_some c
    refine vo tF rfl rfl (lC Ï) (iR Ï) wz (aG sZ rfl 8 rfl wz ?_)
    obtain ⟨f,y,c⟩:=bind_some c
    refine Qi Alert.al 0 il ft 0 sz9 rfl rfl y (⟨f.Id,f.Sender,f.Kind,f.Refs,f.At,f.Until,f.Weight,f.Areas,j.1⟩:Alert) (Alert.al.exA 0 b) (Alert.al.exB 0 b) rfl wz (AV (b':=gB 1 eS (dw Alert.Refs (setLast b (⟨f.Id,f.Sender,f.Kind,f.Refs,f.At,f.Until,f.Weight,f.Areas,j.1⟩:Alert)))) 1 rfl (congrArg (gB 1 eS) ((DR Alert.Refs y).trans (rC Alert.Refs b (⟨f.Id,f.Sender,f.Kind,f.Refs,f.At,f.Until,f.Weight,f.Areas,j.1⟩:Alert)).symm)) (AV (b':=gB 4 Rect.enc (dw Alert.Areas (setLast b (⟨f.Id,f.Sender,f.Kind,f.Refs,f.At,f.Until,f.Weight,f.Areas,j.1⟩:Alert)))) 2 rfl (congrArg (gB 4 Rect.enc) ((DR Alert.Areas y).trans (rC Alert.Areas b (⟨f.Id,f.Sender,f.Kind,f.Refs,f.At,f.Until,f.Weight,f.Areas,j.1⟩:Alert)).symm)) (gD (v':=(gV (au 0) 9 (setLast b (⟨f.Id,f.Sender,f.Kind,f.Refs,f.At,f.Until,f.Weight,f.Areas,j.1⟩:Alert)))) 0 rfl (l6 (qc _ y)) (gD (v':=(gV (au 0) 9 (setLast b (⟨f.Id,f.Sender,f.Kind,f.Refs,f.At,f.Until,f.Weight,f.Areas,j.1⟩:Alert)))) 40 rfl (l6 (qc _ y)) (gD (v':=(gV (au 0) 9 (setLast b (⟨f.Id,f.Sender,f.Kind,f.Refs,f.At,f.Until,f.Weight,f.Areas,j.1⟩:Alert)))) 41 rfl (l6 (qc _ y)) (af (ai (aa (gV (au 0) 9 (setLast b (⟨f.Id,f.Sender,f.Kind,f.Refs,f.At,f.Until,f.Weight,f.Areas,j.1⟩:Alert))) (aa (gV (au 0) 9 (setLast b (⟨f.Id,f.Sender,f.Kind,f.Refs,f.At,f.Until,f.Weight,f.Areas,j.1⟩:Alert))) (aa (vB true) (af ?_)))))))))))
    obtain rfl:=ae c
    refine ay ?_
    exact⟨.inr rfl,[(gV (au 0) 9 (setLast b (⟨f.Id,f.Sender,f.Kind,f.Refs,f.At,f.Until,f.Weight,f.Areas,j.1⟩:Alert))),(vB true)],(au 0),(Alert.al.exA 0 b),(Alert.al.exB 0 b),0,1,2,⟨rfl,⟨rfl,trivial⟩⟩,rfl,rfl,rfl,rfl,rfl,⟨Nat.le_of_ble_eq_true rfl,Nat.le_of_ble_eq_true rfl,Nat.le_of_ble_eq_true rfl⟩,by decide,by decide,by decide⟩
 ·refine aA rfl W (ax (ai (aa (vS K) ?_)))
  obtain ⟨h,Ø,c⟩:=bind_some c
  refine aD (Jd Ø) rfl hb43 rfl rfl rfl rfl wz (aa (.tup [(vL eS h.1),(vB h.2)]) (aa (vL eS h.1) (aa (vB h.2) (aa (vL eS h.1) (aa (vB h.2) (af (ak (ai (aa (vB h.2) (aa (vB (!h.2)) (af ?_)))))))))))
  rcases aj c with⟨P,c⟩|⟨P,c⟩
  ·refine aB rfl P (ai (aa (gV (au 0) 9 b) (aa (gV (au 0) 9 b) (aa (vB false) (af ?_)))))
   obtain rfl:=ae c
   refine ay ?_
   exact⟨.inr rfl,[(gV (au 0) 9 b),(vB false)],(au 0),(Alert.al.exA 0 b),(Alert.al.exB 0 b),0,1,2,⟨rfl,⟨rfl,trivial⟩⟩,rfl,rfl,rfl,rfl,rfl,⟨Nat.le_of_ble_eq_true rfl,Nat.le_of_ble_eq_true rfl,Nat.le_of_ble_eq_true rfl⟩,by decide,by decide,by decide⟩
  ·refine aA rfl P (ax (ak (ak ?_)))
   obtain ⟨õ,w,c⟩:=bind_some c
   refine aP [(0,(gV (au 0) 9 b)),(8,(vL eS h.1)),(64,(vB õ))] [((au 0),Alert.al.box b (Alert.al.exA 0 b) (Alert.al.exB 0 b)),((Alert.al.exA 0 b),gB 1 eS (dw Alert.Refs b)),((Alert.al.exB 0 b),gB 4 Rect.enc (dw Alert.Areas b))] ?_ ?_
   ·refine av (aa (vL eS h.1) ?_)
    obtain ⟨Ó,ß,w⟩:=bind_some w
    refine dC mI rfl rfl ß rfl wz (bC sz9 ag9 rfl (vS Ó) rfl wz (aa (vB (sEq Ó (⟨#[97,108,101,114,116]⟩:ByteArray))) ?_))
    rcases aj w with⟨Q,w⟩|⟨Q,w⟩
    ·refine aC rfl Q wz (aI (vL eS h.1) wa rfl (bL ru rfl wa (aI (vB ((h.1.length:Int)==7)) wa rfl (aa (vB ((h.1.length:Int)==7)) (af ?_)))))
     obtain rfl:=ae w
     exact cu
    ·refine aC rfl Q wz (ah (ah (ah (aa (vB false) (af ?_)))))
     obtain rfl:=ae w
     exact cu
   ·rintro ⟨⟩ _ B z q s
    refine aN _ q s ?_
    rcases aj c with⟨R,c⟩|⟨R,c⟩
    ·refine aB rfl R (ak (bD ?_))
     obtain ⟨Ā,Ù,c⟩:=bind_some c
     refine aD (sK Ù) rfl hb21 rfl rfl rfl rfl wz (aa (vL eS h.1) ?_)
     obtain ⟨ü,à,c⟩:=bind_some c
     refine dC mI rfl rfl à rfl wz (bC sz9 ag9 rfl (vS ü) rfl wz ?_)
     obtain ⟨t,Ú,c⟩:=bind_some c
     refine aD (ku Ú) rfl hb44 rfl rfl rfl rfl wz (aa (vI t) (af (ai (aa (vL eS h.1) ?_))))
     obtain ⟨ā,á,c⟩:=bind_some c
     refine wR ru sz9 (λ_=>rfl) rfl rfl á wz ?_
     obtain ⟨o,Û,c⟩:=bind_some c
     refine aD (uI Û) rfl hb45 rfl rfl rfl rfl wz (aa (.tup [(vL eI o.1),(vB o.2)]) (aa (vL eI o.1) (aa (vB o.2) (aa (vL eI o.1) (aa (vB o.2) (af (ak (ak ?_))))))))
     obtain ⟨ö,A,c⟩:=bind_some c
     refine aP [(0,(gV (au 0) 9 b)),(8,(vL eS h.1)),(10,(vI t)),(11,(vL eI o.1)),(81,(vB ö))] [((au 0),Alert.al.box b (Alert.al.exA 0 b) (Alert.al.exB 0 b)),((Alert.al.exA 0 b),gB 1 eS (dw Alert.Refs b)),((Alert.al.exB 0 b),gB 4 Rect.enc (dw Alert.Areas b))] ?_ ?_
     ·refine av (aa (vB o.2) (aa (vB (!o.2)) ?_))
      rcases aj A with⟨T,A⟩|⟨T,A⟩
      ·refine aC rfl T wz (ah (ah (aa (vB true) (af ?_))))
       obtain rfl:=ae A
       exact cu
      ·refine aC rfl T wz (aI (vI t) wa rfl (aI (vB (decide (t<1))) wa rfl (aa (vB (decide (t<1))) (af ?_))))
       obtain rfl:=ae A
       exact cu
     ·rintro ⟨⟩ _ B z q s
      refine aN _ q s ?_
      rcases aj c with⟨U,c⟩|⟨U,c⟩
      ·refine aB rfl U (ai (aa (gV (au 0) 9 b) (aa (gV (au 0) 9 b) (aa (vB false) (af ?_)))))
       obtain rfl:=ae c
       refine ay ?_
       exact⟨.inr rfl,[(gV (au 0) 9 b),(vB false)],(au 0),(Alert.al.exA 0 b),(Alert.al.exB 0 b),0,1,2,⟨rfl,⟨rfl,trivial⟩⟩,rfl,rfl,rfl,rfl,rfl,⟨Nat.le_of_ble_eq_true rfl,Nat.le_of_ble_eq_true rfl,Nat.le_of_ble_eq_true rfl⟩,by decide,by decide,by decide⟩
      ·refine aA rfl U (ax (ak (Qr Alert.al 0 1 2 rfl rfl rfl (by decide) (bD (aa (gV (au 0) 9 b) (aa (vL eS h.1) ?_))))))
       obtain ⟨C,â,c⟩:=bind_some c
       refine dC mI rfl rfl â rfl wz (bC sz9 ag9 rfl (vS C) rfl wz (aa (vL eS h.1) ?_))
       obtain ⟨E,ã,c⟩:=bind_some c
       refine dC mI rfl rfl ã rfl wz (bC sz9 ag9 rfl (vS E) rfl wz (aa (vI t) (aa (vL eI o.1) ?_)))
       obtain ⟨F,ä,c⟩:=bind_some c
       refine dC lG rfl rfl ä rfl wz (bC sz3 ag3 rfl (vI F) rfl wz (aa (vL eI o.1) ?_))
       obtain ⟨G,å,c⟩:=bind_some c
       refine dC lG rfl rfl å rfl wz (bC sz3 ag3 rfl (vI G) rfl wz (aa (vL eI o.1) ?_))
       obtain ⟨H,æ,c⟩:=bind_some c
       refine dC lG rfl rfl æ rfl wz (bC sz3 ag3 rfl (vI H) rfl wz (aI (.agg [(vS C),(vS E),(vI t),.nil,(vI F),(vI G),(vI H),.nil,(vS (⟨#[]⟩:ByteArray))]) wz (by kernel_rfl) (h_litN [Alert.encN (⟨C,E,t,[],F,G,H,[],(⟨#[]⟩:ByteArray)⟩:Alert)] tF Qc rfl rfl rfl rfl wz ?_)))
       obtain ⟨I,J,c⟩:=bind_some c
       refine h_apal Alert.al (i:=0) (a:=(⟨C,E,t,[],F,G,H,[],(⟨#[]⟩:ByteArray)⟩:Alert)) rfl 19 (.inr (by kernel_rfl)) (λ_ _ ag=>trivial) el26 el26 mG z37 rfl by37 (by decide) rfl rfl rfl J wz (λÉ=>aa (gV É 9 I) (aa (vB true) (af (wH_alC Alert.al (l:=b) (a:=(⟨C,E,t,[],F,G,H,[],(⟨#[]⟩:ByteArray)⟩:Alert)) (Alert.al.exA 0 b) (Alert.al.exB 0 b) 0 rfl rfl rfl J (QQ (b':=gB 1 eS (dw Alert.Refs I)) 1 rfl (NU J rfl) (QQ (b':=gB 4 Rect.enc (dw Alert.Areas I)) 2 rfl (NU J rfl) ?_))))))
       obtain rfl:=ae c
       refine ay ?_
       exact⟨.inr rfl,[(gV É 9 I),(vB true)],É,(Alert.al.exA 0 b),(Alert.al.exB 0 b),0,1,2,⟨rfl,⟨rfl,trivial⟩⟩,rfl,rfl,rfl,rfl,rfl,⟨Nat.le_of_ble_eq_true rfl,Nat.le_of_ble_eq_true rfl,Nat.le_of_ble_eq_true rfl⟩,by decide,by decide,by decide⟩
    ·refine aA rfl R (ax (ak (ak ?_)))
     obtain ⟨ø,v,c⟩:=bind_some c
     refine aP [(0,(gV (au 0) 9 b)),(8,(vL eS h.1)),(115,(vB ø))] [((au 0),Alert.al.box b (Alert.al.exA 0 b) (Alert.al.exB 0 b)),((Alert.al.exA 0 b),gB 1 eS (dw Alert.Refs b)),((Alert.al.exB 0 b),gB 4 Rect.enc (dw Alert.Areas b))] ?_ ?_
     ·refine av (aa (gV (au 0) 9 b) (rG zI rfl wz (aa (vB ((b.length:Int)==0)) ?_)))
      rcases aj v with⟨X,v⟩|⟨X,v⟩
      ·refine aC rfl X wz (ah (ah (ah (ah (ah (ah (ah (ah (aa (vB true) (af ?_))))))))))
       obtain rfl:=ae v
       exact cu
      ·refine aC rfl X wz (aI (gV (au 0) 9 b) wa rfl (aI (gV (au 0) 9 b) wa rfl (rG zI rfl wa (aI (vI (w64 ((b.length:Int)-1))) wa rfl ?_))))
       obtain ⟨_,Ð,v⟩:=bind_some v
       refine vo tF rfl rfl (lC Ð) (iR Ð) wa (aG sZ rfl 8 rfl wa ?_)
       obtain ⟨N,ç,v⟩:=bind_some v
       refine Lr Alert.al 0 0 il ft sz9 ag9 rfl rfl ç (vS N.Text) rfl wa (aI (vB (sNe N.Text (⟨#[]⟩:ByteArray))) wa rfl (aa (vB (sNe N.Text (⟨#[]⟩:ByteArray))) (af ?_)))
       obtain rfl:=ae v
       exact cu
     ·rintro ⟨⟩ _ B z q s
      refine aN _ q s ?_
      rcases aj c with⟨Y,c⟩|⟨Y,c⟩
      ·refine aB rfl Y (ai (aa (gV (au 0) 9 b) (aa (gV (au 0) 9 b) (aa (vB false) (af ?_)))))
       obtain rfl:=ae c
       refine ay ?_
       exact⟨.inr rfl,[(gV (au 0) 9 b),(vB false)],(au 0),(Alert.al.exA 0 b),(Alert.al.exB 0 b),0,1,2,⟨rfl,⟨rfl,trivial⟩⟩,rfl,rfl,rfl,rfl,rfl,⟨Nat.le_of_ble_eq_true rfl,Nat.le_of_ble_eq_true rfl,Nat.le_of_ble_eq_true rfl⟩,by decide,by decide,by decide⟩
      ·refine aA rfl Y (ax (ai (aa (gV (au 0) 9 b) (aa (gV (au 0) 9 b) (rG zI rfl wz (aa (vI (w64 ((b.length:Int)-1))) ?_))))))
       obtain ⟨_,Ñ,c⟩:=bind_some c
       refine vo tF rfl rfl (lC Ñ) (iR Ñ) wz (aa (.ref (au 0) (0+((w64 ((b.length:Int)-1))).toNat) 0) (af (ak (aM (ak ?_)))))
       obtain ⟨ú,m,c⟩:=bind_some c
       refine aP [(0,(gV (au 0) 9 b)),(8,(vL eS h.1)),(13,(.ref (au 0) (0+((w64 ((b.length:Int)-1))).toNat) 0)),(122,(vB ú))] [((au 0),Alert.al.box b (Alert.al.exA 0 b) (Alert.al.exB 0 b)),((Alert.al.exA 0 b),gB 1 eS (dw Alert.Refs b)),((Alert.al.exB 0 b),gB 4 Rect.enc (dw Alert.Areas b))] ?_ ?_
       ·refine av (aa (vL eS h.1) ?_)
        obtain ⟨Ô,è,m⟩:=bind_some m
        refine dC mI rfl rfl è rfl wz (bC sz9 ag9 rfl (vS Ô) rfl wz (aa (vB (sEq Ô (⟨#[114,101,102]⟩:ByteArray))) ?_))
        rcases aj m with⟨Z,m⟩|⟨Z,m⟩
        ·refine aC rfl Z wz (aI (vL eS h.1) wa rfl (bL ru rfl wa (aI (vB ((h.1.length:Int)==2)) wa rfl (aa (vB ((h.1.length:Int)==2)) ?_))))
         rcases aj m with⟨À,m⟩|⟨À,m⟩
         ·refine aC rfl À wz (aI (.ref (au 0) (0+((w64 ((b.length:Int)-1))).toNat) 0) wa rfl (aI (.ref (au 0) (0+((w64 ((b.length:Int)-1))).toNat) 0) wa rfl (aG rZ rfl 7 rfl wa ?_)))
          obtain ⟨ý,é,m⟩:=bind_some m
          refine Lr Alert.al 0 0 il ft BZ FJ rfl rfl é (gV (Alert.al.exB 0 b) 4 (dw Alert.Areas b)) rfl wa (rG yX rfl wa (aI (vB (((dw Alert.Areas b).length:Int)==0)) wa rfl (aa (vB (((dw Alert.Areas b).length:Int)==0)) (aa (vB (((dw Alert.Areas b).length:Int)==0)) (af ?_)))))
          obtain rfl:=ae m
          exact cu
         ·refine aC rfl À wz (ah (ah (ah (ah (ah (ah (aa (vB false) (aa (vB false) (af ?_)))))))))
          obtain rfl:=ae m
          exact cu
        ·refine aC rfl Z wz (ah (ah (ah (aa (vB false) (aa (vB false) (ah (ah (ah (ah (ah (ah (aa (vB false) (aa (vB false) (af ?_))))))))))))))
         obtain rfl:=ae m
         exact cu
       ·rintro ⟨⟩ _ B z q s
        refine aN _ q s ?_
        rcases aj c with⟨Á,c⟩|⟨Á,c⟩
        ·refine aB rfl Á (ak (bD (aa (.ref (au 0) (0+((w64 ((b.length:Int)-1))).toNat) 0) (aa (.ref (au 0) (0+((w64 ((b.length:Int)-1))).toNat) 0) (aa (.ref (au 0) (0+((w64 ((b.length:Int)-1))).toNat) 0) (aG qG rfl 3 rfl wz ?_))))))
         obtain ⟨þ,ê,c⟩:=bind_some c
         refine Lr Alert.al 4 0 (.inr (by kernel_rfl)) (λ_ _ ag=>trivial) Ar Ep rfl rfl ê (gV (Alert.al.exA 0 b) 1 (dw Alert.Refs b)) rfl wz (aa (vL eS h.1) ?_)
         obtain ⟨Õ,ë,c⟩:=bind_some c
         refine dC mI rfl rfl ë rfl wz (bC sz9 ag9 rfl (vS Õ) rfl wz (eD (([Õ]:List ByteArray).map eS) mI DD rfl rfl rfl rfl rfl wz ?_))
         obtain ⟨u,ô,c⟩:=bind_some c
         refine kY 9 (.inr (by kernel_rfl)) (λ_ _ ag=>⟨.inr (.inr (by kernel_rfl)),trivial⟩) (i:=1) Ox Ox sz9 z9 rfl (by decide) by9 (by decide) (λ_=>rfl) rfl rfl rfl ô wz (λÒ=>aa (.ref (au 0) (0+((w64 ((b.length:Int)-1))).toNat) 0) (aG qG rfl 3 rfl wz ?_))
         obtain ⟨g,È,c⟩:=bind_some c
         refine Qi Alert.al 12 (.inr (by kernel_rfl)) (λ_ _ ag=>⟨.inr (.inr (by kernel_rfl)),⟨.inr (.inr (by kernel_rfl)),trivial⟩⟩) 0 Ar rfl rfl È (⟨g.Id,g.Sender,g.Kind,u,g.At,g.Until,g.Weight,g.Areas,g.Text⟩:Alert) Ò (Alert.al.exB 0 b) (Nw rfl) wz (AV (b':=gB 1 eS (dw Alert.Refs (setLast b (⟨g.Id,g.Sender,g.Kind,u,g.At,g.Until,g.Weight,g.Areas,g.Text⟩:Alert)))) 1 rfl (congrArg (gB 1 eS) (rC Alert.Refs b (⟨g.Id,g.Sender,g.Kind,u,g.At,g.Until,g.Weight,g.Areas,g.Text⟩:Alert)).symm) (AV (b':=gB 4 Rect.enc (dw Alert.Areas (setLast b (⟨g.Id,g.Sender,g.Kind,u,g.At,g.Until,g.Weight,g.Areas,g.Text⟩:Alert)))) 2 rfl (congrArg (gB 4 Rect.enc) ((DR Alert.Areas È).trans (rC Alert.Areas b (⟨g.Id,g.Sender,g.Kind,u,g.At,g.Until,g.Weight,g.Areas,g.Text⟩:Alert)).symm)) (gD (v':=(gV (au 0) 9 (setLast b (⟨g.Id,g.Sender,g.Kind,u,g.At,g.Until,g.Weight,g.Areas,g.Text⟩:Alert)))) 0 rfl (l6 (qc _ È)) (af (ai (aa (gV (au 0) 9 (setLast b (⟨g.Id,g.Sender,g.Kind,u,g.At,g.Until,g.Weight,g.Areas,g.Text⟩:Alert))) (aa (gV (au 0) 9 (setLast b (⟨g.Id,g.Sender,g.Kind,u,g.At,g.Until,g.Weight,g.Areas,g.Text⟩:Alert))) (aa (vB true) (af ?_)))))))))
         obtain rfl:=ae c
         refine ay ?_
         exact⟨.inr rfl,[(gV (au 0) 9 (setLast b (⟨g.Id,g.Sender,g.Kind,u,g.At,g.Until,g.Weight,g.Areas,g.Text⟩:Alert))),(vB true)],(au 0),Ò,(Alert.al.exB 0 b),0,1,2,⟨rfl,⟨rfl,trivial⟩⟩,rfl,rfl,rfl,rfl,rfl,⟨Nat.le_of_ble_eq_true rfl,Nat.le_of_ble_eq_true rfl,Nat.le_of_ble_eq_true rfl⟩,by decide,by decide,by decide⟩
        ·refine aA rfl Á (ak ?_)
         obtain ⟨û,x,c⟩:=bind_some c
         refine aP [(0,(gV (au 0) 9 b)),(8,(vL eS h.1)),(13,(.ref (au 0) (0+((w64 ((b.length:Int)-1))).toNat) 0)),(153,(vB û))] [((au 0),Alert.al.box b (Alert.al.exA 0 b) (Alert.al.exB 0 b)),((Alert.al.exA 0 b),gB 1 eS (dw Alert.Refs b)),((Alert.al.exB 0 b),gB 4 Rect.enc (dw Alert.Areas b))] ?_ ?_
         ·refine av (aa (vL eS h.1) ?_)
          obtain ⟨Ö,ì,x⟩:=bind_some x
          refine dC mI rfl rfl ì rfl wz (bC sz9 ag9 rfl (vS Ö) rfl wz (aa (vB (sEq Ö (⟨#[97,114,101,97]⟩:ByteArray))) ?_))
          rcases aj x with⟨Ã,x⟩|⟨Ã,x⟩
          ·refine aC rfl Ã wz (aI (vL eS h.1) wa rfl (bL ru rfl wa (aI (vB ((h.1.length:Int)==5)) wa rfl (aa (vB ((h.1.length:Int)==5)) (aa (vB ((h.1.length:Int)==5)) (af ?_))))))
           obtain rfl:=ae x
           exact cu
          ·refine aC rfl Ã wz (ah (ah (ah (aa (vB false) (aa (vB false) (af ?_))))))
           obtain rfl:=ae x
           exact cu
         ·rintro ⟨⟩ _ B z q s
          refine aN _ q s ?_
          rcases aj c with⟨Ä,c⟩|⟨Ä,c⟩
          ·refine aB rfl Ä (ai (aa (vL eS h.1) ?_))
           obtain ⟨Ă,í,c⟩:=bind_some c
           refine wR ru sz9 (λ_=>rfl) rfl rfl í wz ?_
           obtain ⟨p,Ý,c⟩:=bind_some c
           refine aD (uI Ý) rfl hb45 rfl rfl rfl rfl wz (aa (.tup [(vL eI p.1),(vB p.2)]) (aa (vL eI p.1) (aa (vB p.2) (aa (vL eI p.1) (aa (vB p.2) (af (ak (ai (aa (vB p.2) (aa (vB (!p.2)) (af ?_)))))))))))
           rcases aj c with⟨Å,c⟩|⟨Å,c⟩
           ·refine aB rfl Å (ai (aa (gV (au 0) 9 b) (aa (gV (au 0) 9 b) (aa (vB false) (af ?_)))))
            obtain rfl:=ae c
            refine ay ?_
            exact⟨.inr rfl,[(gV (au 0) 9 b),(vB false)],(au 0),(Alert.al.exA 0 b),(Alert.al.exB 0 b),0,1,2,⟨rfl,⟨rfl,trivial⟩⟩,rfl,rfl,rfl,rfl,rfl,⟨Nat.le_of_ble_eq_true rfl,Nat.le_of_ble_eq_true rfl,Nat.le_of_ble_eq_true rfl⟩,by decide,by decide,by decide⟩
           ·refine aA rfl Å (ax (ak (bD (aa (.ref (au 0) (0+((w64 ((b.length:Int)-1))).toNat) 0) (aa (.ref (au 0) (0+((w64 ((b.length:Int)-1))).toNat) 0) (aa (.ref (au 0) (0+((w64 ((b.length:Int)-1))).toNat) 0) (aG rZ rfl 7 rfl wz ?_)))))))
            obtain ⟨ÿ,î,c⟩:=bind_some c
            refine Lr Alert.al 4 0 (.inr (by kernel_rfl)) (λ_ _ ag=>trivial) BZ FJ rfl rfl î (gV (Alert.al.exB 0 b) 4 (dw Alert.Areas b)) rfl wz (aa (vL eI p.1) ?_)
            obtain ⟨Ê,ï,c⟩:=bind_some c
            refine dC lG rfl rfl ï rfl wz (bC sz3 ag3 rfl (vI Ê) rfl wz (aa (vL eI p.1) ?_))
            obtain ⟨Ë,ð,c⟩:=bind_some c
            refine dC lG rfl rfl ð rfl wz (bC sz3 ag3 rfl (vI Ë) rfl wz (aa (vL eI p.1) ?_))
            obtain ⟨Ì,ñ,c⟩:=bind_some c
            refine dC lG rfl rfl ñ rfl wz (bC sz3 ag3 rfl (vI Ì) rfl wz (aa (vL eI p.1) ?_))
            obtain ⟨Í,ò,c⟩:=bind_some c
            refine dC lG rfl rfl ò rfl wz (bC sz3 ag3 rfl (vI Í) rfl wz (aI (.d (.agg (Rect.enc (⟨Ê,Ë,Ì,Í⟩:Rect)))) wz (by kernel_rfl) (eD (([(⟨Ê,Ë,Ì,Í⟩:Rect)]:List Rect).map Rect.enc) BI QP rfl rfl rfl rfl rfl wz ?_)))
            obtain ⟨k,ó,c⟩:=bind_some c
            refine kY 19 (.inr (by kernel_rfl)) (λ_ _ ag=>⟨.inr (.inr (by kernel_rfl)),trivial⟩) (i:=2) FX FX qw z47 rfl (by decide) Qe (by decide) (λ_=>rfl) rfl rfl rfl ó wz (λL=>aa (.ref (au 0) (0+((w64 ((b.length:Int)-1))).toNat) 0) (aG rZ rfl 7 rfl wz ?_))
            obtain ⟨e,Ç,c⟩:=bind_some c
            refine Qi Alert.al 22 (.inr (by kernel_rfl)) (λ_ _ ag=>⟨.inr (.inr (by kernel_rfl)),⟨.inr (.inr (by kernel_rfl)),trivial⟩⟩) 0 BZ rfl rfl Ç (⟨e.Id,e.Sender,e.Kind,e.Refs,e.At,e.Until,e.Weight,k,e.Text⟩:Alert) (Alert.al.exA 0 b) L (Nw rfl) wz (AV (b':=gB 1 eS (dw Alert.Refs (setLast b (⟨e.Id,e.Sender,e.Kind,e.Refs,e.At,e.Until,e.Weight,k,e.Text⟩:Alert)))) 1 rfl (congrArg (gB 1 eS) ((DR Alert.Refs Ç).trans (rC Alert.Refs b (⟨e.Id,e.Sender,e.Kind,e.Refs,e.At,e.Until,e.Weight,k,e.Text⟩:Alert)).symm)) (AV (b':=gB 4 Rect.enc (dw Alert.Areas (setLast b (⟨e.Id,e.Sender,e.Kind,e.Refs,e.At,e.Until,e.Weight,k,e.Text⟩:Alert)))) 2 rfl (congrArg (gB 4 Rect.enc) (rC Alert.Areas b (⟨e.Id,e.Sender,e.Kind,e.Refs,e.At,e.Until,e.Weight,k,e.Text⟩:Alert)).symm) (gD (v':=(gV (au 0) 9 (setLast b (⟨e.Id,e.Sender,e.Kind,e.Refs,e.At,e.Until,e.Weight,k,e.Text⟩:Alert)))) 0 rfl (l6 (qc _ Ç)) (af (aN (H0:=([((au 0),Alert.al.box (setLast b (⟨e.Id,e.Sender,e.Kind,e.Refs,e.At,e.Until,e.Weight,k,e.Text⟩:Alert)) (Alert.al.exA 0 b) L),((Alert.al.exA 0 b),gB 1 eS (dw Alert.Refs (setLast b (⟨e.Id,e.Sender,e.Kind,e.Refs,e.At,e.Until,e.Weight,k,e.Text⟩:Alert)))),(L,gB 4 Rect.enc (dw Alert.Areas (setLast b (⟨e.Id,e.Sender,e.Kind,e.Refs,e.At,e.Until,e.Weight,k,e.Text⟩:Alert))))]:Hp)) ([(0,(gV (au 0) 9 (setLast b (⟨e.Id,e.Sender,e.Kind,e.Refs,e.At,e.Until,e.Weight,k,e.Text⟩:Alert))))]:SL_) (by kernel_rfl) (ul (by kernel_rfl)) (ai (aa (gV (au 0) 9 (setLast b (⟨e.Id,e.Sender,e.Kind,e.Refs,e.At,e.Until,e.Weight,k,e.Text⟩:Alert))) (aa (gV (au 0) 9 (setLast b (⟨e.Id,e.Sender,e.Kind,e.Refs,e.At,e.Until,e.Weight,k,e.Text⟩:Alert))) (aa (vB true) (af ?_))))))))))
            obtain rfl:=ae c
            refine ay ?_
            exact⟨.inr rfl,[(gV (au 0) 9 (setLast b (⟨e.Id,e.Sender,e.Kind,e.Refs,e.At,e.Until,e.Weight,k,e.Text⟩:Alert))),(vB true)],(au 0),(Alert.al.exA 0 b),L,0,1,2,⟨rfl,⟨rfl,trivial⟩⟩,rfl,rfl,rfl,rfl,rfl,⟨Nat.le_of_ble_eq_true rfl,Nat.le_of_ble_eq_true rfl,Nat.le_of_ble_eq_true rfl⟩,by decide,by decide,by decide⟩
          ·refine aA rfl Ä (ax (ai (aa (gV (au 0) 9 b) (aa (gV (au 0) 9 b) (aa (vB false) (af ?_))))))
           obtain rfl:=ae c
           refine ay ?_
           exact⟨.inr rfl,[(gV (au 0) 9 b),(vB false)],(au 0),(Alert.al.exA 0 b),(Alert.al.exB 0 b),0,1,2,⟨rfl,⟨rfl,trivial⟩⟩,rfl,rfl,rfl,rfl,rfl,⟨Nat.le_of_ble_eq_true rfl,Nat.le_of_ble_eq_true rfl,Nat.le_of_ble_eq_true rfl⟩,by decide,by decide,by decide⟩
end Go.Proofs.YtljhfffghjclfabGreatDoor.Law

