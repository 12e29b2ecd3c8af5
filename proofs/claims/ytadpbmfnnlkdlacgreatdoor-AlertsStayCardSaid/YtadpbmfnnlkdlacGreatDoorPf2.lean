/-
 The machine computes these plain functions (written by a program of ours).
-/
import Derived.Test.YtadpbmfnnlkdlacGreatDoorFacts
import Derived.Test.YtadpbmfnnlkdlacGreatDoorDefs
import Derived.Test.YtadpbmfnnlkdlacGreatDoorPf1
import Derived.Test.YtadpbmfnnlkdlacGreatDoorShelf
open Go Go.Eng Go.Proofs
namespace Go.Proofs.YtadpbmfnnlkdlacGreatDoor.Law
set_option maxRecDepth 100000
set_option linter.unusedVariables false
set_option maxHeartbeats 1000000
theorem bI {a:Int} {e:Int} {b:Int} {r:Bool} (d:aY a e b=some r) :
  FnM Tryz.prog 46 [(vI a),(vI e),(vI b)] [] (vB r) []:=by
 refine FnM.of_wH ⟨Tryz.prog,15,[],[]⟩ rfl Tryz.func46 rfl rfl (lb_ rfl) (by kernel_rfl) ?_
 unfold aY at d
 refine ai (aa (vB false) (ah (ak ?_)))
 obtain ⟨g,c,d⟩:=bind_some d
 refine aR [(6,(vB g))] [] ?_ ?_
 ·refine au (aa (vI a) (aa (vI e) (aa (vB (decide (a<e))) ?_)))
  rcases aj c with⟨f,c⟩|⟨f,c⟩
  ·refine aF rfl f wz (af (af (af (aa (vB true) (aa (vB true) (ah ?_))))))
   obtain rfl:=ae c
   exact cu
  ·refine aF rfl f wz (aJ (vI a) wa rfl (aJ (vI b) wa rfl (aJ (vB (decide (a>b))) wa rfl (aa (vB (decide (a>b))) (aa (vB (decide (a>b))) (ah ?_))))))
   obtain rfl:=ae c
   exact cu
 ·rintro ⟨⟩ _ k j h i
  refine aN _ h i ?_
  obtain rfl:=ae d
  exact aB (aM [(vB g)] ⟨rfl,trivial⟩)
theorem BV {a:Alert} {r:Int} (c:iJ a=some r) :
  FnM Tryz.prog 107 [(.d (.agg (Alert.enc a)))] [] (vI r) []:=by
 refine FnM.of_wH ⟨Tryz.prog,48,[],[]⟩ rfl Tryz.func107 rfl rfl (lb_ rfl) (by kernel_rfl) ?_
 unfold iJ at c
 refine ai (eT 0 (.inl rfl) (Alert.v a) rfl rfl wz (λj=>aa (vI 0) (ah (ak (ai (aH qx rfl 3 rfl wz (aC 0 0 il ft zV Cy rfl rfl (vL eS a.Refs) rfl wz (bJ wY rfl wz (aa (vB (decide ((a.Refs.length:Int)>20))) (ah ?_))))))))))
 rcases aj c with⟨u,c⟩|⟨u,c⟩
 ·refine aA rfl u (ai (aa (vI 2) (ah ?_)))
  obtain rfl:=ae c
  exact aB (aM [(vI 2)] ⟨rfl,trivial⟩)
 ·refine ay rfl u (av (ak (ai (aH qx rfl 3 rfl wz (aC 0 0 il ft zV Cy rfl rfl (vL eS a.Refs) rfl wz (bJ wY rfl wz (aa (vI 0) (ah ?_))))))))
  obtain ⟨I,w,c⟩:=bind_some c
  obtain ⟨E,w⟩:=aS w
  refine bH (λ(l:Unit)=>[(1,(.ref j 0 0))]) (λ(l:Unit)=>[(j,some (.cells 9 (Alert.v a)))]) (λ(e:Nat)=>(λ(l:Unit)=>[(1,(.ref j 0 0)),(10,(vL eS a.Refs)),(11,(vI (a.Refs.length:Int))),(12,(vI (e:Int)))])) (λk x s=>dZ a k x s) I a.Refs () w rfl (aG rfl) ?_ ?_
  ·rintro ⟨e,A,l⟩ ⟨g,i⟩
   dsimp only at g i
   cases A with
   | nil =>
    obtain rfl:=ae g
    refine ai (aa (vB (decide ((e:Int)<(a.Refs.length:Int)))) (ah ?_))
    refine ak (ay rfl (drop_nil i) (aX ?_))
    exact aU (l) rfl rfl (aG rfl)
   | cons f A =>
    obtain ⟨L,b,g⟩:=bind_some g
    refine ai (aa (vB (decide ((e:Int)<(a.Refs.length:Int)))) (ah ?_))
    refine ak (aA rfl (aZ i) (av ?_))
    unfold dZ at b
    refine ak (aK (ai (aa (vI (e:Int)) (dK qo rfl rfl (bz i) rfl wz (bK sz9 ag9 rfl (vS f) rfl wz (aa (vI (e:Int)) (aa (vS f) (ah (aK (ai (aa (vS f) ?_)))))))))))
    obtain ⟨B,G,b⟩:=bind_some b
    refine aD (gX G) rfl DY rfl rfl rfl rfl wz (aa (vB (!B)) (aa (vB (!B)) (ah ?_)))
    rcases aj b with⟨n,b⟩|⟨n,b⟩
    ·refine aA rfl n (ai (aa (vI 5) (ah ?_)))
     obtain rfl:=ae b
     obtain rfl:=ae g
     obtain rfl:=ae c
     exact aB (aM [(vI 5)] ⟨rfl,trivial⟩)
    ·refine ay rfl n (ak ?_)
     obtain ⟨K,h,b⟩:=bind_some b
     refine aR [(1,(.ref j 0 0)),(4,(vS f)),(10,(vL eS a.Refs)),(11,(vI (a.Refs.length:Int))),(12,(vI (e:Int))),(21,(vB K))] [(j,some (.cells 9 (Alert.v a)))] ?_ ?_
     ·refine au (aa (vI (e:Int)) (aa (vB (decide ((e:Int)>0))) ?_))
      rcases aj h with⟨o,h⟩|⟨o,h⟩
      ·refine aF rfl o wz (aJ (vS f) wa rfl (aH qx rfl 3 rfl wa (aC 0 0 il ft zV Cy rfl rfl (vL eS a.Refs) rfl wa (aJ (vI (e:Int)) wa rfl (aJ (vI (w64 ((e:Int)-1))) wa rfl ?_)))))
       obtain ⟨m,H,h⟩:=bind_some h
       refine dK qo rfl rfl H rfl wa (bK sz9 ag9 rfl (vS m) rfl wa (aJ (vB (sLe f m)) wa rfl (aa (vB (sLe f m)) (aa (vB (sLe f m)) (ah ?_)))))
       obtain rfl:=ae h
       exact cu
      ·refine aF rfl o wz (af (af (af (af (af (af (af (af (aa (vB false) (aa (vB false) (ah ?_)))))))))))
       obtain rfl:=ae h
       exact cu
     ·rintro ⟨⟩ _ J C y z
      refine aN _ y z ?_
      rcases aj b with⟨p,b⟩|⟨p,b⟩
      ·refine aA rfl p (ai (aa (vI 7) (ah ?_)))
       obtain rfl:=ae b
       obtain rfl:=ae g
       obtain rfl:=ae c
       exact aB (aM [(vI 7)] ⟨rfl,trivial⟩)
      ·refine ay rfl p (ai (aa (vS f) (aH kZ rfl 0 rfl wz (aC 0 0 il ft sz9 ag9 rfl rfl (vS a.Id) rfl wz (aa (vB (sEq f a.Id)) (aa (vB (sEq f a.Id)) (ah ?_)))))))
       rcases aj b with⟨q,b⟩|⟨q,b⟩
       ·refine aA rfl q (ai (aa (vI 14) (ah ?_)))
        obtain rfl:=ae b
        obtain rfl:=ae g
        obtain rfl:=ae c
        exact aB (aM [(vI 14)] ⟨rfl,trivial⟩)
       ·refine ay rfl q (av (au (dx (bf i E) wz rfl (aa (vI ((e+1:Nat):Int)) (ah ?_)))))
        obtain rfl:=ae b
        exact aV (e+1,A,()) ⟨g,aP i⟩ (ls_ _) rfl (aG rfl)
  ·rintro l F J C y z
   subst F
   refine aN _ y z (ak (ai (aH xk rfl 2 rfl wz (aC 0 0 il ft sz3 ag3 rfl rfl (vI a.Kind) rfl wz (aa (vB (a.Kind==1)) (aH qx rfl 3 rfl wz (aC 0 0 il ft zV Cy rfl rfl (vL eS a.Refs) rfl wz (bJ wY rfl wz (aa (vB ((a.Refs.length:Int)==0)) (Tn un4 rfl rfl wz (ah ?_)))))))))))
   rcases aj c with⟨t,c⟩|⟨t,c⟩
   ·refine aA rfl t (ai (aa (vI 3) (ah ?_)))
    obtain rfl:=ae c
    exact aB (aM [(vI 3)] ⟨rfl,trivial⟩)
   ·refine ay rfl t (av (ai (aa (vI 0) (ah ?_))))
    obtain rfl:=ae c
    exact aB (aM [(vI 0)] ⟨rfl,trivial⟩)
theorem gM {a:Int} {r:Bool} (c:bX a=some r) :
  FnM Tryz.prog 47 [(vI a)] [] (vB r) []:=by
 refine FnM.of_wH ⟨Tryz.prog,9,[],[]⟩ rfl Tryz.func47 rfl rfl (lb_ rfl) (by kernel_rfl) ?_
 unfold bX at c
 refine ai (aa (vB false) (ah (ak ?_)))
 obtain ⟨e,b,c⟩:=bind_some c
 refine aR [(2,(vB e))] [] ?_ ?_
 ·refine au (aa (vI a) (aa (vB (decide (a>=0))) ?_))
  rcases aj b with⟨d,b⟩|⟨d,b⟩
  ·refine aF rfl d wz (aJ (vI a) wa rfl (aJ (vB (decide (a<345686400000))) wa rfl (aa (vB (decide (a<345686400000))) (aa (vB (decide (a<345686400000))) (ah ?_)))))
   obtain rfl:=ae b
   exact cu
  ·refine aF rfl d wz (af (af (aa (vB false) (aa (vB false) (ah ?_)))))
   obtain rfl:=ae b
   exact cu
 ·rintro ⟨⟩ _ i h f g
  refine aN _ f g ?_
  obtain rfl:=ae c
  exact aB (aM [(vB e)] ⟨rfl,trivial⟩)
theorem uK {b:Rect} {r:Int} (a:jI b=some r) :
  FnM Tryz.prog 108 [(.d (.agg (Rect.enc b)))] [] (vI r) []:=by
 refine FnM.of_wH ⟨Tryz.prog,25,[],[]⟩ rfl Tryz.func108 rfl rfl (lb_ rfl) (by kernel_rfl) ?_
 unfold jI at a
 refine ai (eT 0 (.inl rfl) (Rect.v b) rfl rfl wz (λl=>aa (vI 0) (ah (ak (ak ?_)))))
 obtain ⟨x,e,a⟩:=bind_some a
 refine aR [(1,(.ref l 0 0)),(10,(vB x))] [(l,some (.cells 4 (Rect.v b)))] ?_ ?_
 ·refine au (aH BJ rfl 0 rfl wz (aC 0 0 il ft sz3 ag3 rfl rfl (vI b.X) rfl wz ?_))
  obtain ⟨z,p,e⟩:=bind_some e
  refine aD (bI p) rfl uO rfl rfl rfl rfl wz ?_
  rcases aj e with⟨i,e⟩|⟨i,e⟩
  ·refine aF rfl i wz (af (af (af (aa (vB true) (ah ?_)))))
   obtain rfl:=ae e
   exact cu
  ·refine aF rfl i wz (aH yT rfl 1 rfl wa (aC 0 0 il ft sz3 ag3 rfl rfl (vI b.Y) rfl wa ?_))
   obtain ⟨t,q,e⟩:=bind_some e
   refine aD (bI q) rfl uO rfl rfl rfl rfl wa (aa (vB t) (ah ?_))
   obtain rfl:=ae e
   exact cu
 ·rintro ⟨⟩ _ u m j k
  refine aN _ j k ?_
  rcases aj a with⟨f,a⟩|⟨f,a⟩
  ·refine aA rfl f (ai (aa (vI 1) (ah ?_)))
   obtain rfl:=ae a
   exact aB (aM [(vI 1)] ⟨rfl,trivial⟩)
  ·refine ay rfl f (av (ak (ak ?_)))
   obtain ⟨w,c,a⟩:=bind_some a
   refine aR [(24,(vB w))] [(l,some (.cells 4 (Rect.v b)))] ?_ ?_
   ·refine au (aH F6 rfl 2 rfl wz (aC 0 0 il ft sz3 ag3 rfl rfl (vI b.W) rfl wz (aH BJ rfl 0 rfl wz (aC 0 0 il ft sz3 ag3 rfl rfl (vI b.X) rfl wz (aa (vI (w64 (100000-b.X))) ?_)))))
    obtain ⟨y,n,c⟩:=bind_some c
    refine aD (bI n) rfl uO rfl rfl rfl rfl wz ?_
    rcases aj c with⟨g,c⟩|⟨g,c⟩
    ·refine aF rfl g wz (af (af (af (af (af (af (aa (vB true) (ah ?_))))))))
     obtain rfl:=ae c
     exact cu
    ·refine aF rfl g wz (aH DK rfl 3 rfl wa (aC 0 0 il ft sz3 ag3 rfl rfl (vI b.H) rfl wa (aH yT rfl 1 rfl wa (aC 0 0 il ft sz3 ag3 rfl rfl (vI b.Y) rfl wa (aJ (vI (w64 (100000-b.Y))) wa rfl ?_)))))
     obtain ⟨s,o,c⟩:=bind_some c
     refine aD (bI o) rfl uO rfl rfl rfl rfl wa (aa (vB s) (ah ?_))
     obtain rfl:=ae c
     exact cu
   ·rintro ⟨⟩ _ u m j k
    refine aN _ j k ?_
    rcases aj a with⟨h,a⟩|⟨h,a⟩
    ·refine aA rfl h (ai (aa (vI 1) (ah ?_)))
     obtain rfl:=ae a
     exact aB (aM [(vI 1)] ⟨rfl,trivial⟩)
    ·refine ay rfl h (av (ai (aa (vI 0) (ah ?_))))
     obtain rfl:=ae a
     exact aB (aM [(vI 0)] ⟨rfl,trivial⟩)
theorem uP {x0:ByteArray} {r:Bool} (a:lN x0=some r) :
  FnM Tryz.prog 152 [(vS x0)] [] (vB r) [] :=
 Tf rfl Tryz.utf8_ValidString QJ a
theorem xh {n:ByteArray} {c:Int} {r:ByteArray} (g:strings_trimRightByte n c=some r) :
  FnM Tryz.prog 178 [(vS n),(.d (.int .u8 c))] [] (vS r) []:=by
 refine FnM.of_wH ⟨Tryz.prog,23,[],[]⟩ rfl Tryz.func178 rfl rfl (lb_ rfl) (by kernel_rfl) ?_
 unfold strings_trimRightByte at g
 refine ai (aa (vS (⟨#[]⟩:ByteArray)) (ah (ak ?_)))
 obtain ⟨x,k,g⟩:=bind_some g
 obtain ⟨w,k⟩:=dF k
 refine eU (λ(a:ByteArray)=>[(0,(vS a))]) (λ(a:ByteArray)=>[]) (λ(h:Nat)=>(λ(a:ByteArray)=>[(0,(vS a)),(1,(.d (.int .u8 c)))])) (λs=>jL c s) x w n k rfl (aG rfl) ?_ ?_
 ·rintro ⟨h,a⟩ f
  dsimp only at f
  cases h with
  | zero=>cases f
  | succ h =>
   obtain ⟨A,b,f⟩:=bind_some f
   unfold jL at b
   refine ak (ak ?_)
   obtain ⟨z,e,b⟩:=bind_some b
   refine aR [(0,(vS a)),(1,(.d (.int .u8 c))),(16,(vB z))] [] ?_ ?_
   ·refine au (aa (vS a) (yG un9 rfl wz (aa (vB (decide ((a.size:Int)>0))) ?_)))
    rcases aj e with⟨i,e⟩|⟨i,e⟩
    ·refine aF rfl i wz (aJ (vS a) wa rfl (aJ (vS a) wa rfl (yG un9 rfl wa (aJ (vI (w64 ((a.size:Int)-1))) wa rfl ?_))))
     obtain ⟨o,u,e⟩:=bind_some e
     refine yM un9 rfl rfl u wa (aJ (.d (.int .u8 c)) wa rfl (aJ (vB ((o.toNat:Int)==c)) wa rfl (aa (vB ((o.toNat:Int)==c)) (ah ?_))))
     obtain rfl:=ae e
     exact cu
    ·refine aF rfl i wz (af (af (af (af (af (af (af (aa (vB false) (ah ?_)))))))))
     obtain rfl:=ae e
     exact cu
   ·rintro ⟨⟩ _ y q l m
    refine aN _ l m ?_
    rcases aj b with⟨j,b⟩|⟨j,b⟩
    ·refine aA rfl j (av (aK (au (aa (vS a) (aa (vS a) (yG un9 rfl wz (aa (vI (w64 ((a.size:Int)-1))) ?_)))))))
     obtain ⟨p,v,b⟩:=bind_some b
     refine Im un9 rfl rfl v wz (aa (vS p) (ah ?_))
     obtain rfl:=ae b
     exact aV (h,p) f (ls_ _) rfl (aG rfl)
    ·refine ay rfl j (aX ?_)
     obtain rfl:=ae b
     obtain rfl:=ae f
     exact aU (a) rfl rfl (aG rfl)
 ·rintro a t y q l m
  subst t
  refine aN _ l m (ai (aa (vS a) (aa (vS a) (ah ?_))))
  obtain rfl:=ae g
  exact aB (aM [(vS a)] ⟨rfl,trivial⟩)
theorem xC {n:ByteArray} {c:Int} {r:ByteArray} (g:strings_trimLeftByte n c=some r) :
  FnM Tryz.prog 177 [(vS n),(.d (.int .u8 c))] [] (vS r) []:=by
 refine FnM.of_wH ⟨Tryz.prog,17,[],[]⟩ rfl Tryz.func177 rfl rfl (lb_ rfl) (by kernel_rfl) ?_
 unfold strings_trimLeftByte at g
 refine ai (aa (vS (⟨#[]⟩:ByteArray)) (ah (ak ?_)))
 obtain ⟨x,k,g⟩:=bind_some g
 obtain ⟨w,k⟩:=dF k
 refine eU (λ(a:ByteArray)=>[(0,(vS a))]) (λ(a:ByteArray)=>[]) (λ(h:Nat)=>(λ(a:ByteArray)=>[(0,(vS a)),(1,(.d (.int .u8 c)))])) (λs=>jT c s) x w n k rfl (aG rfl) ?_ ?_
 ·rintro ⟨h,a⟩ f
  dsimp only at f
  cases h with
  | zero=>cases f
  | succ h =>
   obtain ⟨A,b,f⟩:=bind_some f
   unfold jT at b
   refine ak (ak ?_)
   obtain ⟨z,e,b⟩:=bind_some b
   refine aR [(0,(vS a)),(1,(.d (.int .u8 c))),(13,(vB z))] [] ?_ ?_
   ·refine au (aa (vS a) (yG un9 rfl wz (aa (vB (decide ((a.size:Int)>0))) ?_)))
    rcases aj e with⟨i,e⟩|⟨i,e⟩
    ·refine aF rfl i wz (aJ (vS a) wa rfl ?_)
     obtain ⟨o,u,e⟩:=bind_some e
     refine yM un9 rfl rfl u wa (aJ (.d (.int .u8 c)) wa rfl (aJ (vB ((o.toNat:Int)==c)) wa rfl (aa (vB ((o.toNat:Int)==c)) (ah ?_))))
     obtain rfl:=ae e
     exact cu
    ·refine aF rfl i wz (af (af (af (af (aa (vB false) (ah ?_))))))
     obtain rfl:=ae e
     exact cu
   ·rintro ⟨⟩ _ y q l m
    refine aN _ l m ?_
    rcases aj b with⟨j,b⟩|⟨j,b⟩
    ·refine aA rfl j (av (aK (au (aa (vS a) ?_))))
     obtain ⟨p,v,b⟩:=bind_some b
     refine Hu un9 rfl rfl v wz (aa (vS p) (ah ?_))
     obtain rfl:=ae b
     exact aV (h,p) f (ls_ _) rfl (aG rfl)
    ·refine ay rfl j (aX ?_)
     obtain rfl:=ae b
     obtain rfl:=ae f
     exact aU (a) rfl rfl (aG rfl)
 ·rintro a t y q l m
  subst t
  refine aN _ l m (ai (aa (vS a) (aa (vS a) (ah ?_))))
  obtain rfl:=ae g
  exact aB (aM [(vS a)] ⟨rfl,trivial⟩)
theorem Fg {c:ByteArray} {b:ByteArray} {r:ByteArray} (a:q8 c b=some r) :
  FnM Tryz.prog 153 [(vS c),(vS b)] [] (vS r) []:=by
 refine FnM.of_wH ⟨Tryz.prog,43,[],[]⟩ rfl Tryz.func153 rfl rfl (lb_ rfl) (by kernel_rfl) ?_
 unfold q8 at a
 refine ai (aa (vS (⟨#[]⟩:ByteArray)) (ah (ak (ak ?_))))
 obtain ⟨v,e,a⟩:=bind_some a
 refine aR [(0,(vS c)),(1,(vS b)),(12,(vB v))] [] ?_ ?_
 ·refine au (aa (vS c) (aa (vB (sEq c (⟨#[]⟩:ByteArray))) ?_))
  rcases aj e with⟨g,e⟩|⟨g,e⟩
  ·refine aF rfl g wz (af (af (aa (vB true) (ah ?_))))
   obtain rfl:=ae e
   exact cu
  ·refine aF rfl g wz (aJ (vS b) wa rfl (aJ (vB (sEq b (⟨#[]⟩:ByteArray))) wa rfl (aa (vB (sEq b (⟨#[]⟩:ByteArray))) (ah ?_))))
   obtain rfl:=ae e
   exact cu
 ·rintro ⟨⟩ _ u n j k
  refine aN _ j k ?_
  rcases aj a with⟨h,a⟩|⟨h,a⟩
  ·refine aA rfl h (ai (aa (vS c) (aa (vS c) (ah ?_))))
   obtain rfl:=ae a
   exact aB (aM [(vS c)] ⟨rfl,trivial⟩)
  ·refine ay rfl h (av (ak (ak ?_)))
   obtain ⟨w,d,a⟩:=bind_some a
   refine aR [(0,(vS c)),(1,(vS b)),(21,(vB w))] [] ?_ ?_
   ·refine au (aa (vS b) (yG un9 rfl wz (aa (vB ((b.size:Int)==1)) ?_)))
    rcases aj d with⟨i,d⟩|⟨i,d⟩
    ·refine aF rfl i wz (aJ (vS b) wa rfl ?_)
     obtain ⟨l,q,d⟩:=bind_some d
     refine yM un9 rfl rfl q wa (aJ (vB (decide ((l.toNat:Int)<128))) wa rfl (aa (vB (decide ((l.toNat:Int)<128))) (ah ?_)))
     obtain rfl:=ae d
     exact cu
    ·refine aF rfl i wz (af (af (af (aa (vB false) (ah ?_)))))
     obtain rfl:=ae d
     exact cu
   ·rintro ⟨⟩ _ u n j k
    refine aN _ j k ?_
    rcases aj a with⟨f,a⟩|⟨f,a⟩
    ·refine aA rfl f (ak (bv (aa (vS c) (aa (vS b) ?_))))
     obtain ⟨x,s,a⟩:=bind_some a
     refine yM un9 rfl rfl s wz ?_
     obtain ⟨z,o,a⟩:=bind_some a
     refine aD (xh o) rfl hb178 rfl rfl rfl rfl wz (aa (vS b) ?_)
     obtain ⟨y,t,a⟩:=bind_some a
     refine yM un9 rfl rfl t wz ?_
     obtain ⟨m,p,a⟩:=bind_some a
     refine aD (xC p) rfl hb177 rfl rfl rfl rfl wz (aa (vS m) (ah ?_))
     obtain rfl:=ae a
     exact aB (aM [(vS m)] ⟨rfl,trivial⟩)
    ·refine ay rfl f (av (ak (ai (aa (vS b) ?_))))
     cases a
theorem AX {x0:ByteArray} {x1:ByteArray} {r:Bool} (a:strings_Contains x0 x1=some r) :
  FnM Tryz.prog 154 [(vS x0),(vS x1)] [] (vB r) [] :=
 Nj Tryz.strings_Contains LP a
theorem Gu {a:ByteArray} {r:Bool} (f:mQ a=some r) :
  FnM Tryz.prog 109 [(vS a)] [] (vB r) []:=by
 refine FnM.of_wH ⟨Tryz.prog,33,[],[]⟩ rfl Tryz.func109 rfl rfl (lb_ rfl) (by kernel_rfl) ?_
 unfold mQ at f
 refine ai (aa (vB false) (ah (ak (ai (aa (vI 0) (ah ?_))))))
 obtain ⟨H,p,f⟩:=bind_some f
 obtain ⟨G,p⟩:=dF p
 refine eU (λ(c:Int)=>[(0,(vS a))]) (λ(c:Int)=>[]) (λ(j:Nat)=>(λ(c:Int)=>[(0,(vS a)),(3,(vI c))])) (λs=>rH a s) H G 0 p rfl (aG rfl) ?_ ?_
 ·rintro ⟨j,c⟩ g
  dsimp only at g
  cases j with
  | zero=>cases g
  | succ j =>
   obtain ⟨J,d,g⟩:=bind_some g
   unfold rH at d
   refine ak (ai (aa (vI c) (aa (vS a) (yG un9 rfl wz (aa (vB (decide (c<(a.size:Int)))) (ah ?_))))))
   rcases aj d with⟨k,d⟩|⟨k,d⟩
   ·refine aA rfl k (av (ak (aK (ak ?_))))
    obtain ⟨I,e,d⟩:=bind_some d
    refine aR [(0,(vS a)),(3,(vI c)),(19,(vB I))] [] ?_ ?_
    ·refine au (aa (vS a) (aa (vI c) ?_))
     obtain ⟨y,E,e⟩:=bind_some e
     refine yM un9 rfl rfl E wz (aa (vB (decide ((y.toNat:Int)<32))) ?_)
     rcases aj e with⟨l,e⟩|⟨l,e⟩
     ·refine aF rfl l wz (af (af (af (af (aa (vB true) (ah ?_))))))
      obtain rfl:=ae e
      exact cu
     ·refine aF rfl l wz (aJ (vS a) wa rfl (aJ (vI c) wa rfl ?_))
      obtain ⟨u,F,e⟩:=bind_some e
      refine yM un9 rfl rfl F wa (aJ (vB ((u.toNat:Int)==127)) wa rfl (aa (vB ((u.toNat:Int)==127)) (ah ?_)))
      obtain rfl:=ae e
      exact cu
    ·rintro ⟨⟩ _ w t h i
     refine aN _ h i ?_
     rcases aj d with⟨m,d⟩|⟨m,d⟩
     ·refine aA rfl m (ai (aa (vB false) (ah ?_)))
      obtain rfl:=ae d
      obtain rfl:=ae g
      obtain rfl:=ae f
      exact aB (aM [(vB false)] ⟨rfl,trivial⟩)
     ·refine ay rfl m (av (au (aa (vI c) (aa (vI (w64 (c+1))) (aa (vI (w64 (c+1))) (ah ?_))))))
      obtain rfl:=ae d
      exact aV (j,(w64 (c+1))) g (ls_ _) rfl (aG rfl)
   ·refine ay rfl k (aX ?_)
    obtain rfl:=ae d
    obtain rfl:=ae g
    exact aU (c) rfl rfl (aG rfl)
 ·rintro c z w t h i
  subst z
  refine aN _ h i (ak ?_)
  obtain ⟨x,b,f⟩:=bind_some f
  refine aR [(2,(vB x))] [] ?_ ?_
  ·refine au (aa (vS a) ?_)
   obtain ⟨K,A,b⟩:=bind_some b
   refine aD (uP A) rfl hb152 rfl rfl rfl rfl wz ?_
   rcases aj b with⟨n,b⟩|⟨n,b⟩
   ·refine aF rfl n wz (aJ (vS a) wa rfl ?_)
    obtain ⟨v,B,b⟩:=bind_some b
    refine aD (Fg B) rfl hb153 rfl rfl rfl rfl wa (aJ (vS a) wa rfl (aJ (vB (sEq v a)) wa rfl (aa (vB (sEq v a)) ?_)))
    rcases aj b with⟨o,b⟩|⟨o,b⟩
    ·refine aF rfl o wz (aJ (vS a) wa rfl ?_)
     obtain ⟨q,C,b⟩:=bind_some b
     refine aD (AX C) rfl hb154 rfl rfl rfl rfl wa (aJ (vB (!q)) wa rfl (aa (vB (!q)) (aa (vB (!q)) (ah ?_))))
     obtain rfl:=ae b
     exact cu
    ·refine aF rfl o wz (af (af (af (aa (vB false) (aa (vB false) (ah ?_))))))
     obtain rfl:=ae b
     exact cu
   ·refine aF rfl n wz (af (af (af (af (aa (vB false) (aa (vB false) (af (af (af (aa (vB false) (aa (vB false) (ah ?_))))))))))))
    obtain rfl:=ae b
    exact cu
  ·rintro ⟨⟩ _ w t h i
   refine aN _ h i ?_
   obtain rfl:=ae f
   exact aB (aM [(vB x)] ⟨rfl,trivial⟩)
theorem A7 {b:Alert} {r:Int} (a:gP b=some r) :
  FnM Tryz.prog 67 [(.d (.agg (Alert.enc b)))] [] (vI r) []:=by
 refine FnM.of_wH ⟨Tryz.prog,92,[],[]⟩ rfl Tryz.func67 rfl rfl (lb_ rfl) (by kernel_rfl) ?_
 unfold gP at a
 refine ai (eT 0 (.inl rfl) (Alert.v b) rfl rfl wz (λh=>aa (vI 0) (ah (ak (ak ?_)))))
 obtain ⟨Ê,f,a⟩:=bind_some a
 refine aR [(1,(.ref h 0 0)),(17,(vB Ê))] [(h,some (.cells 9 (Alert.v b)))] ?_ ?_
 ·refine au (aH kZ rfl 0 rfl wz (aC 0 0 il ft sz9 ag9 rfl rfl (vS b.Id) rfl wz ?_))
  obtain ⟨È,Á,f⟩:=bind_some f
  refine aD (gX Á) rfl DY rfl rfl rfl rfl wz (aa (vB (!È)) ?_)
  rcases aj f with⟨K,f⟩|⟨K,f⟩
  ·refine aF rfl K wz (af (af (af (af (aa (vB true) (ah ?_))))))
   obtain rfl:=ae f
   exact cu
  ·refine aF rfl K wz (aH Ez rfl 1 rfl wa (aC 0 0 il ft sz9 ag9 rfl rfl (vS b.Sender) rfl wa ?_))
   obtain ⟨P,Â,f⟩:=bind_some f
   refine aD (gX Â) rfl DY rfl rfl rfl rfl wa (aJ (vB (!P)) wa rfl (aa (vB (!P)) (ah ?_)))
   obtain rfl:=ae f
   exact cu
 ·rintro ⟨⟩ _ N t i j
  refine aN _ i j ?_
  rcases aj a with⟨u,a⟩|⟨u,a⟩
  ·refine aA rfl u (ai (aa (vI 5) (ah ?_)))
   obtain rfl:=ae a
   exact aB (aM [(vI 5)] ⟨rfl,trivial⟩)
  ·refine ay rfl u (av (ak (ai (aH xk rfl 2 rfl wz (aC 0 0 il ft sz3 ag3 rfl rfl (vI b.Kind) rfl wz ?_)))))
   obtain ⟨Î,T,a⟩:=bind_some a
   refine aD (bI T) rfl uO rfl rfl rfl rfl wz (ah ?_)
   rcases aj a with⟨w,a⟩|⟨w,a⟩
   ·refine aA rfl w (ai (aa (vI 4) (ah ?_)))
    obtain rfl:=ae a
    exact aB (aM [(vI 4)] ⟨rfl,trivial⟩)
   ·refine ay rfl w (av (ak (ai (aC 0 0 il ft fJ jZ rfl rfl (.d (.agg (Alert.enc b))) rfl wz ?_))))
    obtain ⟨o,U,a⟩:=bind_some a
    refine aD (BV U) rfl hb107 rfl rfl rfl rfl wz (aa (vI o) (ah (ai (aa (vI o) (aa (vB (o != 0)) (ah ?_))))))
    rcases aj a with⟨y,a⟩|⟨y,a⟩
    ·refine aA rfl y (ai (aa (vI o) (aa (vI o) (ah ?_))))
     obtain rfl:=ae a
     exact aB (aM [(vI o)] ⟨rfl,trivial⟩)
    ·refine ay rfl y (av (ak (ak ?_)))
     obtain ⟨É,c,a⟩:=bind_some a
     refine aR [(1,(.ref h 0 0)),(45,(vB É))] [(h,some (.cells 9 (Alert.v b)))] ?_ ?_
     ·refine au (aH lg rfl 4 rfl wz (aC 0 0 il ft sz3 ag3 rfl rfl (vI b.At) rfl wz ?_))
      obtain ⟨Ä,W,c⟩:=bind_some c
      refine aD (gM W) rfl IV rfl rfl rfl rfl wz (aa (vB (!Ä)) ?_)
      rcases aj c with⟨z,c⟩|⟨z,c⟩
      ·refine aF rfl z wz (af (af (af (af (af (af (af (af (af (aa (vB true) (aa (vB true) (af (af (af (aa (vB true) (ah ?_))))))))))))))))
       obtain rfl:=ae c
       exact cu
      ·refine aF rfl z wz (aH DC rfl 5 rfl wa (aC 0 0 il ft sz3 ag3 rfl rfl (vI b.Until) rfl wa (aH lg rfl 4 rfl wa (aC 0 0 il ft sz3 ag3 rfl rfl (vI b.At) rfl wa (aJ (vI (w64 (b.At+1))) wa rfl (aH lg rfl 4 rfl wa (aC 0 0 il ft sz3 ag3 rfl rfl (vI b.At) rfl wa (aJ (vI (w64 (b.At+2592000000))) wa rfl ?_))))))))
       obtain ⟨Å,X,c⟩:=bind_some c
       refine aD (bI X) rfl uO rfl rfl rfl rfl wa (aa (vB Å) ?_)
       rcases aj c with⟨A,c⟩|⟨A,c⟩
       ·refine aF rfl A wz (af (af (af (aa (vB true) (ah ?_)))))
        obtain rfl:=ae c
        exact cu
       ·refine aF rfl A wz (aH DU rfl 6 rfl wa (aC 0 0 il ft sz3 ag3 rfl rfl (vI b.Weight) rfl wa ?_))
        obtain ⟨Æ,Y,c⟩:=bind_some c
        refine aD (bI Y) rfl uO rfl rfl rfl rfl wa (aa (vB Æ) (ah ?_))
        obtain rfl:=ae c
        exact cu
     ·rintro ⟨⟩ _ N t i j
      refine aN _ i j ?_
      rcases aj a with⟨B,a⟩|⟨B,a⟩
      ·refine aA rfl B (ai (aa (vI 1) (ah ?_)))
       obtain rfl:=ae a
       exact aB (aM [(vI 1)] ⟨rfl,trivial⟩)
      ·refine ay rfl B (av (ak (ai (aH ul rfl 7 rfl wz (aC 0 0 il ft CQ FE rfl rfl (vL Rect.enc b.Areas) rfl wz (bJ yP rfl wz (aa (vB (decide ((b.Areas.length:Int)>20))) (ah ?_))))))))
       rcases aj a with⟨C,a⟩|⟨C,a⟩
       ·refine aA rfl C (ai (aa (vI 2) (ah ?_)))
        obtain rfl:=ae a
        exact aB (aM [(vI 2)] ⟨rfl,trivial⟩)
       ·refine ay rfl C (av (ak (ai (aH ul rfl 7 rfl wz (aC 0 0 il ft CQ FE rfl rfl (vL Rect.enc b.Areas) rfl wz (bJ yP rfl wz (aa (vI 0) (ah ?_))))))))
        obtain ⟨Ã,L,a⟩:=bind_some a
        obtain ⟨Q,L⟩:=aS L
        refine bH (λ(q:Unit)=>[(1,(.ref h 0 0))]) (λ(q:Unit)=>[(h,some (.cells 9 (Alert.v b)))]) (λ(n:Nat)=>(λ(q:Unit)=>[(1,(.ref h 0 0)),(51,(vL Rect.enc b.Areas)),(52,(vI (b.Areas.length:Int))),(53,(vI (n:Int)))])) (λk x s=>eQ k x s) Ã b.Areas () L rfl (aG rfl) ?_ ?_
        ·rintro ⟨n,M,q⟩ ⟨m,l⟩
         dsimp only at m l
         cases M with
         | nil =>
          obtain rfl:=ae m
          refine ai (aa (vB (decide ((n:Int)<(b.Areas.length:Int)))) (ah ?_))
          refine ak (ay rfl (drop_nil l) (aX ?_))
          exact aU (q) rfl rfl (aG rfl)
         | cons O M =>
          obtain ⟨Ì,g,m⟩:=bind_some m
          refine ai (aa (vB (decide ((n:Int)<(b.Areas.length:Int)))) (ah ?_))
          refine ak (aA rfl (aZ l) (av ?_))
          unfold eQ at g
          refine ak (aK (ai (dK BC rfl rfl (bz l) rfl wz (bK rV Ed rfl (.d (.agg (Rect.enc O))) rfl wz (bZ 0 (.inl rfl) z42 rfl wz (λÍ=>gp 0 il ft 1 rV rfl rfl (Rect.v O) rfl wz (ah (ai (aC 0 1 il ft rV Ed rfl rfl (.d (.agg (Rect.enc O))) rfl wz ?_)))))))))
          obtain ⟨p,Z,g⟩:=bind_some g
          refine aD (uK Z) rfl hb108 rfl rfl rfl rfl wz (aa (vI p) (ah (ai (aa (vI p) (aa (vB (p != 0)) (ah ?_))))))
          rcases aj g with⟨E,g⟩|⟨E,g⟩
          ·refine aA rfl E (ai (aa (vI p) (aa (vI p) (ah ?_))))
           obtain rfl:=ae g
           obtain rfl:=ae m
           obtain rfl:=ae a
           exact aB (aM [(vI p)] ⟨rfl,trivial⟩)
          ·refine ay rfl E (av (au (dx (bf l Q) wz rfl (aa (vI ((n+1:Nat):Int)) (ah ?_)))))
           obtain rfl:=ae g
           exact aV (n+1,M,()) ⟨m,aP l⟩ (ls_ _) rfl (aG rfl)
        ·rintro q R N t i j
         subst R
         refine aN _ i j (ai (aH xk rfl 2 rfl wz (aC 0 0 il ft sz3 ag3 rfl rfl (vI b.Kind) rfl wz (aa (vB (b.Kind==3)) (aa (vB (b.Kind==3)) (ah (ak (aK (ai (aa (vB (b.Kind==3)) (aH ul rfl 7 rfl wz (aC 0 0 il ft CQ FE rfl rfl (vL Rect.enc b.Areas) rfl wz (bJ yP rfl wz (aa (vB ((b.Areas.length:Int)==0)) (Tn un4 rfl rfl wz (aa (vB (!((b.Kind==3)==((b.Areas.length:Int)==0)))) (ah ?_)))))))))))))))))
         rcases aj a with⟨F,a⟩|⟨F,a⟩
         ·refine aA rfl F (ai (aa (vI 3) (ah ?_)))
          obtain rfl:=ae a
          exact aB (aM [(vI 3)] ⟨rfl,trivial⟩)
         ·refine ay rfl F (ai (aH Am rfl 8 rfl wz (aC 0 0 il ft sz9 ag9 rfl rfl (vS b.Text) rfl wz (yG un9 rfl wz (aa (vB (decide ((b.Text.size:Int)>500))) (aa (vB (decide ((b.Text.size:Int)>500))) (ah ?_)))))))
          rcases aj a with⟨G,a⟩|⟨G,a⟩
          ·refine aA rfl G (ai (aa (vI 2) (ah ?_)))
           obtain rfl:=ae a
           exact aB (aM [(vI 2)] ⟨rfl,trivial⟩)
          ·refine ay rfl G (ak ?_)
           obtain ⟨Ë,e,a⟩:=bind_some a
           refine aR [(78,(vB Ë))] [(h,some (.cells 9 (Alert.v b)))] ?_ ?_
           ·refine au (aH Am rfl 8 rfl wz (aC 0 0 il ft sz9 ag9 rfl rfl (vS b.Text) rfl wz ?_))
            obtain ⟨Ç,À,e⟩:=bind_some e
            refine aD (Gu À) rfl hb109 rfl rfl rfl rfl wz (aa (vB (!Ç)) ?_)
            rcases aj e with⟨H,e⟩|⟨H,e⟩
            ·refine aF rfl H wz (af (af (af (af (dI (wn rfl rfl) (dI (wn rfl rfl) (af (aa (vB true) (aa (vB true) (ah ?_))))))))))
             obtain rfl:=ae e
             exact cu
            ·refine aF rfl H wz (aH Am rfl 8 rfl wa (aC 0 0 il ft sz9 ag9 rfl rfl (vS b.Text) rfl wa (aJ (vB (sEq b.Text (⟨#[]⟩:ByteArray))) wa rfl ?_)))
             rcases aj e with⟨I,e⟩|⟨I,e⟩
             ·refine aF rfl I wa (aJ (vB (b.Kind==3)) wa rfl (aJ (vB (!(b.Kind==3))) wa rfl (aJ (vB (!(b.Kind==3))) wa rfl (aa (vB (!(b.Kind==3))) (aa (vB (!(b.Kind==3))) (ah ?_))))))
              obtain rfl:=ae e
              exact cu
             ·refine aF rfl I wa (af (af (aJ (vB false) wa rfl (aa (vB false) (aa (vB false) (ah ?_))))))
              obtain rfl:=ae e
              exact cu
           ·rintro ⟨⟩ _ N t i j
            refine aN _ i j ?_
            rcases aj a with⟨J,a⟩|⟨J,a⟩
            ·refine aA rfl J (ai (aa (vI 3) (ah ?_)))
             obtain rfl:=ae a
             exact aB (aM [(vI 3)] ⟨rfl,trivial⟩)
            ·refine ay rfl J (av (ai (aa (vI 0) (ah ?_))))
             obtain rfl:=ae a
             exact aB (aM [(vI 0)] ⟨rfl,trivial⟩)
section
variable [dM:DM]
theorem pE {a:Int} {r:Bool} (b:cmp_isNaN_int a=some r) :
  FnM Tryz.prog 77 [(vI a)] [] (vB r) []:=by
 refine FnM.of_wH ⟨Tryz.prog,6,[],[]⟩ rfl Tryz.func77 rfl rfl (lb_ rfl) (by kernel_rfl) ?_
 unfold cmp_isNaN_int at b
 refine ai (aa (vB false) (ah (ai (aa (vI a) (aa (vI a) (aa (vB (a != a)) (aa (vB (a != a)) (ah ?_))))))))
 obtain rfl:=ae b
 exact aB (aM [(vB (a != a))] ⟨rfl,trivial⟩)
end
section
variable [dM:DM]
theorem iT {b:Int} {c:Int} {r:Int} (a:cmp_Compare_int b c=some r) :
  FnM Tryz.prog 42 [(vI b),(vI c)] [] (vI r) []:=by
 refine FnM.of_wH ⟨Tryz.prog,20,[],[]⟩ rfl Tryz.func42 rfl rfl (lb_ rfl) (by kernel_rfl) ?_
 unfold cmp_Compare_int at a
 refine ai (aa (vI 0) (ah (ai (aa (vI b) ?_))))
 obtain ⟨j,k,a⟩:=bind_some a
 refine aD (pE k) rfl hb77 rfl rfl rfl rfl wz (aa (vB j) (ah (ai (aa (vI c) ?_))))
 obtain ⟨i,l,a⟩:=bind_some a
 refine aD (pE l) rfl hb77 rfl rfl rfl rfl wz (aa (vB i) (ah (ak (ai (aa (vB j) (ah ?_))))))
 rcases aj a with⟨f,a⟩|⟨f,a⟩
 ·refine aA rfl f (ak (ai (aa (vB i) (ah ?_))))
  rcases aj a with⟨g,a⟩|⟨g,a⟩
  ·refine aA rfl g (ai (aa (vI 0) (ah ?_)))
   obtain rfl:=ae a
   exact aB (aM [(vI 0)] ⟨rfl,trivial⟩)
  ·refine ay rfl g (av (ai (aa (vI (-1)) (ah ?_))))
   obtain rfl:=ae a
   exact aB (aM [(vI (-1))] ⟨rfl,trivial⟩)
 ·refine ay rfl f (av (ak (ai (aa (vB i) (ah ?_)))))
  rcases aj a with⟨h,a⟩|⟨h,a⟩
  ·refine aA rfl h (ai (aa (vI 1) (ah ?_)))
   obtain rfl:=ae a
   exact aB (aM [(vI 1)] ⟨rfl,trivial⟩)
  ·refine ay rfl h (av (ak (ai (aa (vI b) (aa (vI c) (aa (vB (decide (b<c))) (ah ?_)))))))
   rcases aj a with⟨d,a⟩|⟨d,a⟩
   ·refine aA rfl d (ai (aa (vI (-1)) (ah ?_)))
    obtain rfl:=ae a
    exact aB (aM [(vI (-1))] ⟨rfl,trivial⟩)
   ·refine ay rfl d (av (ak (ai (aa (vI b) (aa (vI c) (aa (vB (decide (b>c))) (ah ?_)))))))
    rcases aj a with⟨e,a⟩|⟨e,a⟩
    ·refine aA rfl e (ai (aa (vI 1) (ah ?_)))
     obtain rfl:=ae a
     exact aB (aM [(vI 1)] ⟨rfl,trivial⟩)
    ·refine ay rfl e (av (ai (aa (vI 0) (ah ?_))))
     obtain rfl:=ae a
     exact aB (aM [(vI 0)] ⟨rfl,trivial⟩)
end
section
variable [dM:DM]
theorem qN {a:ByteArray} {b:ByteArray} {r:Int} (c:jJ a b=some r) :
  FnM Tryz.prog 81 [(vS a),(vS b)] [] (vI r) []:=by
 refine FnM.of_wH ⟨Tryz.prog,8,[],[]⟩ rfl Tryz.func81 rfl rfl (lb_ rfl) (by kernel_rfl) ?_
 unfold jJ at c
 refine ai (aa (vI 0) (ah (ai (aa (vS a) (aa (vS b) (h_ext (TF (f:=130) Tryz.func130 rfl rfl (by kernel_rfl) (by kernel_rfl) _ _) rfl nb130 rfl wz (aa (vI (zF a b)) (ah ?_))))))))
 obtain rfl:=ae c
 exact aB (aM [(vI (zF a b))] ⟨rfl,trivial⟩)
end
section
variable [dM:DM]
theorem gL {b:ByteArray} {c:ByteArray} {r:Int} (a:strings_Compare b c=some r) :
  FnM Tryz.prog 53 [(vS b),(vS c)] [] (vI r) []:=by
 refine FnM.of_wH ⟨Tryz.prog,8,[],[]⟩ rfl Tryz.func53 rfl rfl (lb_ rfl) (by kernel_rfl) ?_
 unfold strings_Compare at a
 refine ai (aa (vI 0) (ah (ai (aa (vS b) (aa (vS c) ?_)))))
 obtain ⟨d,e,a⟩:=bind_some a
 refine aD (qN e) rfl hb81 rfl rfl rfl rfl wz (aa (vI d) (ah ?_))
 obtain rfl:=ae a
 exact aB (aM [(vI d)] ⟨rfl,trivial⟩)
end
section
variable [dM:DM]
theorem lV {a:(List Int)} {r:Int} (g:jG a=some r) :
  FnM Tryz.prog 40 [(vL eI a)] [] (vI r) []:=by
 refine FnM.of_wH ⟨Tryz.prog,18,[],[]⟩ rfl Tryz.func40 rfl rfl (lb_ rfl) (by kernel_rfl) ?_
 unfold jG at g
 refine ai (aa (vI 0) (ah (ai (aa (vI 0) (ah (ak (ai (aa (vL eI a) (bJ zL rfl wz (aa (vI 0) (ah ?_)))))))))))
 obtain ⟨q,j,g⟩:=bind_some g
 obtain ⟨m,j⟩:=aS j
 refine bH (λ(h:Unit)=>[(3,(vI 0))]) (λ(h:Unit)=>[]) (λ(f:Nat)=>(λ(h:Unit)=>[(3,(vI 0)),(6,(vL eI a)),(7,(vI (a.length:Int))),(8,(vI (f:Int)))])) (λk x s=>qb k x s) q a () j rfl (aG rfl) ?_ ?_
 ·rintro ⟨f,l,h⟩ ⟨d,c⟩
  dsimp only at d c
  cases l with
  | nil =>
   obtain rfl:=ae d
   refine ai (aa (vB (decide ((f:Int)<(a.length:Int)))) (ah ?_))
   refine ak (ay rfl (drop_nil c) (aX ?_))
   exact aU (h) rfl rfl (aG rfl)
  | cons b l =>
   obtain ⟨u,e,d⟩:=bind_some d
   refine ai (aa (vB (decide ((f:Int)<(a.length:Int)))) (ah ?_))
   refine ak (aA rfl (aZ c) (av ?_))
   unfold qb at e
   refine ak (aK (ai (dK nZ rfl rfl (bz c) rfl wz (bK sz3 ag3 rfl (vI b) rfl wz (aa (vI b) (ah (ai (aa (vI b) (aa (vI 0) (aa (vB (b != 0)) (ah ?_)))))))))))
   rcases aj e with⟨i,e⟩|⟨i,e⟩
   ·refine aA rfl i (ai (aa (vI b) (aa (vI b) (ah ?_))))
    obtain rfl:=ae e
    obtain rfl:=ae d
    obtain rfl:=ae g
    exact aB (aM [(vI b)] ⟨rfl,trivial⟩)
   ·refine ay rfl i (av (au (dx (bf c m) wz rfl (aa (vI ((f+1:Nat):Int)) (ah ?_)))))
    obtain rfl:=ae e
    exact aV (f+1,l,()) ⟨d,aP c⟩ (ls_ _) rfl (aG rfl)
 ·rintro h n v t o p
  subst n
  refine aN _ o p (ai (aa (vI 0) (aa (vI 0) (ah ?_))))
  obtain rfl:=ae g
  exact aB (aM [(vI 0)] ⟨rfl,trivial⟩)
end
theorem xS {b:Alert} {c:Alert} {r:Int} (a:ja b c=some r) :
  FnM Tryz.prog 35 [(.d (.agg (Alert.enc b))),(.d (.agg (Alert.enc c)))] [] (vI r) []:=by
 refine FnM.of_wH ⟨Tryz.prog,17,[],[]⟩ rfl Tryz.func35 rfl rfl (lb_ rfl) (by kernel_rfl) ?_
 unfold ja at a
 refine ai (eT 0 (.inl rfl) (Alert.v b) rfl rfl wz (λk=>eT 0 (.inl rfl) (Alert.v c) rfl rfl wz (λl=>aa (vI 0) (ah (ak (bv (aH lg rfl 4 rfl wz (aC 1 0 (.inr (by kernel_rfl)) (λ_ _ ag=>trivial) sz3 ag3 rfl rfl (vI b.At) rfl wz (aH lg rfl 4 rfl wz (aC 3 1 (.inr (by kernel_rfl)) (λ_ _ ag=>⟨.inl ⟨rfl,rfl⟩,trivial⟩) sz3 ag3 rfl rfl (vI c.At) rfl wz ?_))))))))))
 obtain ⟨i,g,a⟩:=bind_some a
 refine aD (iT g) rfl Oa rfl rfl rfl rfl wz (aH kZ rfl 0 rfl wz (aC 6 0 (.inr (by kernel_rfl)) (λ_ _ ag=>⟨.inl ⟨rfl,rfl⟩,⟨.inl ⟨rfl,rfl⟩,trivial⟩⟩) sz9 ag9 rfl rfl (vS b.Id) rfl wz (aH kZ rfl 0 rfl wz (aC 8 1 (.inr (by kernel_rfl)) (λ_ _ ag=>⟨.inl ⟨rfl,rfl⟩,⟨.inl ⟨rfl,rfl⟩,⟨.inl ⟨rfl,rfl⟩,trivial⟩⟩⟩) sz9 ag9 rfl rfl (vS c.Id) rfl wz ?_))))
 obtain ⟨j,h,a⟩:=bind_some a
 refine aD (gL h) rfl LJ rfl rfl rfl rfl wz (dW (([i,j]:List Int).map eI) nZ BI rfl rfl rfl rfl rfl wz ?_)
 obtain ⟨e,f,a⟩:=bind_some a
 refine aD (lV f) rfl Np rfl rfl rfl rfl wz (aa (vI e) (ah ?_))
 obtain rfl:=ae a
 exact aB (aM [(vI e)] ⟨rfl,trivial⟩)
theorem tJ {a:(List Alert)} {r:Int} (c:iA a=some r) :
  FnM Tryz.prog 31 [(vL Alert.enc a)] [] (vI r) []:=by
 refine FnM.of_wH ⟨Tryz.prog,52,[],[]⟩ rfl Tryz.func31 rfl rfl (lb_ rfl) (by kernel_rfl) ?_
 unfold iA at c
 refine ai (aa (vI 0) (ah (ak (ai (aa (vL Alert.enc a) (bJ uS rfl wz (aa (vB (decide ((a.length:Int)>300))) (ah ?_))))))))
 rcases aj c with⟨C,c⟩|⟨C,c⟩
 ·refine aA rfl C (ai (aa (vI 2) (ah ?_)))
  obtain rfl:=ae c
  exact aB (aM [(vI 2)] ⟨rfl,trivial⟩)
 ·refine ay rfl C (av (ak (ai (aa (vL Alert.enc a) (bJ uS rfl wz (aa (vI 0) (ah ?_)))))))
  obtain ⟨X,G,c⟩:=bind_some c
  obtain ⟨Q,G⟩:=aS G
  refine bH (λ(w:Unit)=>[(0,(vL Alert.enc a))]) (λ(w:Unit)=>[]) (λ(e:Nat)=>(λ(w:Unit)=>[(0,(vL Alert.enc a)),(12,(vL Alert.enc a)),(13,(vI (a.length:Int))),(14,(vI (e:Int)))])) (λk x s=>gK a k x s) X a () G rfl (aG rfl) ?_ ?_
  ·rintro ⟨e,K,w⟩ ⟨i,l⟩
   dsimp only at i l
   cases K with
   | nil =>
    obtain rfl:=ae i
    refine ai (aa (vB (decide ((e:Int)<(a.length:Int)))) (ah ?_))
    refine ak (ay rfl (drop_nil l) (aX ?_))
    exact aU (w) rfl rfl (aG rfl)
   | cons y K =>
    obtain ⟨O,b,i⟩:=bind_some i
    refine ai (aa (vB (decide ((e:Int)<(a.length:Int)))) (ah ?_))
    refine ak (aA rfl (aZ l) (av ?_))
    unfold gK at b
    refine ak (aK (ai (aa (vI (e:Int)) (dK mH rfl rfl (bz l) rfl wz (bK fJ jZ rfl (.d (.agg (Alert.enc y))) rfl wz (bZ 0 (.inl rfl) z39 rfl wz (λW=>aa (vI (e:Int)) (gp 0 il ft 0 fJ rfl rfl (Alert.v y) rfl wz (ah (ak (ai (aC 0 0 il ft fJ jZ rfl rfl (.d (.agg (Alert.enc y))) rfl wz ?_))))))))))))
    obtain ⟨p,R,b⟩:=bind_some b
    refine aD (A7 R) rfl hb67 rfl rfl rfl rfl wz (aa (vI p) (ah (ai (aa (vI p) (aa (vB (p != 0)) (ah ?_))))))
    rcases aj b with⟨A,b⟩|⟨A,b⟩
    ·refine aA rfl A (ai (aa (vI p) (aa (vI p) (ah ?_))))
     obtain rfl:=ae b
     obtain rfl:=ae i
     obtain rfl:=ae c
     exact aB (aM [(vI p)] ⟨rfl,trivial⟩)
    ·refine ay rfl A (av (ak ?_))
     obtain ⟨Z,g,b⟩:=bind_some b
     refine aR [(0,(vL Alert.enc a)),(12,(vL Alert.enc a)),(13,(vI (a.length:Int))),(14,(vI (e:Int))),(35,(vB Z))] [(W,some (.cells 9 (Alert.v y)))] ?_ ?_
     ·refine bv (aa (vI (e:Int)) (aa (vB (decide ((e:Int)>0))) ?_))
      rcases aj g with⟨B,g⟩|⟨B,g⟩
      ·refine aF rfl B wz (aJ (vL Alert.enc a) wa rfl (aJ (vI (e:Int)) wa rfl (aJ (vI (w64 ((e:Int)-1))) wa rfl ?_)))
       obtain ⟨À,U,g⟩:=bind_some g
       refine dK mH rfl rfl U rfl wa (bK fJ jZ rfl (.d (.agg (Alert.enc À))) rfl wa (aC 8 0 (.inr (by kernel_rfl)) (λ_ _ ag=>trivial) fJ jZ rfl rfl (.d (.agg (Alert.enc y))) rfl wa ?_))
       obtain ⟨M,T,g⟩:=bind_some g
       refine aD (xS T) rfl hb35 rfl rfl rfl rfl wa (aJ (vB (decide (M>=0))) wa rfl (aa (vB (decide (M>=0))) (ah ?_)))
       obtain rfl:=ae g
       exact cu
      ·refine aF rfl B wz (af (af (af (af (af (af (af (af (aa (vB false) (ah ?_))))))))))
       obtain rfl:=ae g
       exact cu
     ·rintro ⟨⟩ _ N L q t
      refine aN _ q t ?_
      rcases aj b with⟨E,b⟩|⟨E,b⟩
      ·refine aA rfl E (ai (aa (vI 7) (ah ?_)))
       obtain rfl:=ae b
       obtain rfl:=ae i
       obtain rfl:=ae c
       exact aB (aM [(vI 7)] ⟨rfl,trivial⟩)
      ·refine ay rfl E (av (au (dx (bf l Q) wz rfl (aa (vI ((e+1:Nat):Int)) (ah ?_)))))
       obtain rfl:=ae b
       exact aV (e+1,K,()) ⟨i,aP l⟩ (ls_ _) rfl (aG rfl)
  ·rintro w I N L q t
   subst I
   refine aN _ q t (ai (J2 0 (.inl rfl) wz (λu=>Lh (b':=some (bM D.str D.bool ([]:List (ByteArray×Bool)))) 0 rfl rfl (aa (.map u) (ah (ak (ai (aa (vL Alert.enc a) (bJ uS rfl wz (aa (vI 0) (ah ?_)))))))))))
   obtain ⟨Y,H,c⟩:=bind_some c
   obtain ⟨P,H⟩:=aS H
   refine bH (λ(f:(List (ByteArray×Bool)))=>[]) (λ(f:(List (ByteArray×Bool)))=>[(u,some (bM D.str D.bool f))]) (λ(o:Nat)=>(λ(f:(List (ByteArray×Bool)))=>[(6,(.map u)),(38,(vL Alert.enc a)),(39,(vI (a.length:Int))),(40,(vI (o:Int)))])) (λk x s=>gJ k x s) Y a ([]:List (ByteArray×Bool)) H rfl (aG rfl) ?_ ?_
   ·rintro ⟨o,J,f⟩ ⟨m,j⟩
    dsimp only at m j
    cases J with
    | nil =>
     obtain rfl:=ae m
     refine ai (aa (vB (decide ((o:Int)<(a.length:Int)))) (ah ?_))
     refine ak (ay rfl (drop_nil j) (aX ?_))
     exact aU (f) rfl rfl (aG rfl)
    | cons h J =>
     obtain ⟨O,n,m⟩:=bind_some m
     refine ai (aa (vB (decide ((o:Int)<(a.length:Int)))) (ah ?_))
     refine ak (aA rfl (aZ j) (av ?_))
     unfold gJ at n
     refine ak (aK (ai (dK mH rfl rfl (bz j) rfl wz (bK fJ jZ rfl (.d (.agg (Alert.enc h))) rfl wz (bZ 0 (.inl rfl) z39 rfl wz (λÁ=>gp 0 il ft 1 fJ rfl rfl (Alert.v h) rfl wz (ah (ak (ai (aa (.map u) (aH kZ rfl 0 rfl wz (aC 0 1 il ft sz9 ag9 rfl rfl (vS h.Id) rfl wz (Dc (eq:=eqS) (kD:=D.str) (vD:=D.bool) (es:=f) (k:=h.Id) (z:=false) 0 0 il ft (λ_ _=>rfl) mt131 (by kernel_rfl) (by kernel_rfl) rfl rfl rfl (vB ((mGet eqS f h.Id).getD false)) rfl wz (ah ?_))))))))))))))
     rcases aj n with⟨F,n⟩|⟨F,n⟩
     ·refine aA rfl F (ai (aa (vI 6) (ah ?_)))
      obtain rfl:=ae n
      obtain rfl:=ae m
      obtain rfl:=ae c
      exact aB (aM [(vI 6)] ⟨rfl,trivial⟩)
     ·refine ay rfl F (av (au (aa (.map u) (aH kZ rfl 0 rfl wz (aC 0 1 il ft sz9 ag9 rfl rfl (vS h.Id) rfl wz (Ir (eq:=eqS) (kD:=D.str) (vD:=D.bool) (es:=f) (k:=h.Id) (v:=true) 0 0 il ft (λ_ _=>rfl) mt131 (by kernel_rfl) rfl rfl rfl rfl wz (ah (au (dx (bf j P) wz rfl (aa (vI ((o+1:Nat):Int)) (ah ?_)))))))))))
      obtain rfl:=ae n
      exact aV (o+1,J,(zY eqS f h.Id true)) ⟨m,aP j⟩ (ls_ _) rfl (aG rfl)
   ·rintro f I N L q t
    subst I
    refine aN _ q t (ai (aa (vI 0) (ah ?_)))
    obtain rfl:=ae c
    exact aB (aM [(vI 0)] ⟨rfl,trivial⟩)
theorem pQ {b:Int} {r:Bool} (a:dS b=some r) :
  FnM Tryz.prog 68 [.nil,(vI b)] [] (kV r (ax 0) 9 ([]:List Alert)) (kO r 9):=by
 refine FnM.of_wH ⟨Tryz.prog,27,[],[]⟩ rfl Tryz.func68 rfl rfl (lb_ rfl) (by kernel_rfl) ?_
 unfold dS at a
 refine ai (aa .nil (ah (ak (ai (aa (vI b) (aa (vB (decide (b<0))) (ah ?_)))))))
 rcases aj a with⟨c,a⟩|⟨c,a⟩
 ·refine aA rfl c (au ?_)
  cases a
 ·refine ay rfl c (av (ak (ai (aa (vI b) (aa .nil (Ey Ik rfl wz (aa .nil (EA uS rfl wz (aa (vI (w64 (0-0))) (aa (vI (w64 (b-(w64 (0-0))))) (aa (vI (w64 (b-(w64 (0-0))))) (ah (ai (aa (vI (w64 (b-(w64 (0-0))))) (aa (vB (decide ((w64 (b-(w64 (0-0))))>0))) (ah ?_))))))))))))))))
  rcases aj a with⟨d,a⟩|⟨d,a⟩
  ·refine aA rfl d (au (aa .nil (aa .nil (Ey Ik rfl wz (aJ .nil wz (by kernel_rfl) (aa (vI (w64 (b-(w64 (0-0))))) ?_))))))
   obtain ⟨_,f,a⟩:=bind_some a
   refine N7 (enc:=Alert.enc) 0 (.inl rfl) Ik (by kernel_rfl) fJ z39 rfl (by decide) QQ rfl rfl f wz (λe=>aa .nil (EA uS rfl wz (Nz (m:=0) uS fJ rfl rfl rfl (Nat.zero_le _) wz (aa (.vs e 9 0 0) (ah (ai (aa (.vs e 9 0 0) (aa (.vs e 9 0 0) (ah ?_)))))))))
   obtain rfl:=ae a
   exact aB (finK (.inr rfl) 0 rfl rfl)
  ·refine ay rfl d (av (ai (aa .nil (aa .nil (ah ?_)))))
   obtain rfl:=ae a
   exact aB (RS (.inr rfl) rfl)
theorem pU {a:(List (List Alert))} {r:(List Alert)} (g:dR a=some r) :
  FnM Tryz.prog 32 [(vL (eL Alert.enc) a)] [] (vL Alert.enc r) []:=by
 refine FnM.of_wH ⟨Tryz.prog,36,[],[]⟩ rfl Tryz.func32 rfl rfl (lb_ rfl) (by kernel_rfl) ?_
 unfold dR at g
 refine ai (aa .nil (ah (ai (aa (vI 0) (ah (ak (ai (aa (vL (eL Alert.enc) a) (bJ un132 rfl wz (aa (vI 0) (ah ?_)))))))))))
 obtain ⟨R,z,g⟩:=bind_some g
 obtain ⟨O,z⟩:=aS z
 refine bH (λ(b:Int)=>[(0,(vL (eL Alert.enc) a)),(3,(vI b))]) (λ(b:Int)=>[]) (λ(h:Nat)=>(λ(b:Int)=>[(0,(vL (eL Alert.enc) a)),(3,(vI b)),(9,(vL (eL Alert.enc) a)),(10,(vI (a.length:Int))),(11,(vI (h:Int)))])) (λk x s=>bD k x s) R a 0 z rfl (aG rfl) ?_ ?_
 ·rintro ⟨h,E,b⟩ ⟨o,l⟩
  dsimp only at o l
  cases E with
  | nil =>
   obtain rfl:=ae o
   refine ai (aa (vB (decide ((h:Int)<(a.length:Int)))) (ah ?_))
   refine ak (ay rfl (drop_nil l) (aX ?_))
   exact aU (b) rfl rfl (aG rfl)
  | cons e E =>
   obtain ⟨L,w,o⟩:=bind_some o
   refine ai (aa (vB (decide ((h:Int)<(a.length:Int)))) (ah ?_))
   refine ak (aA rfl (aZ l) (av ?_))
   unfold bD at w
   refine ak (aK (ai (dK Tq rfl rfl (bz l) rfl wz (bK sz26 ag26 rfl (vL Alert.enc e) rfl wz (aa (vL Alert.enc e) (ah (ai (aa (vI b) (aa (vL Alert.enc e) (bJ uS rfl wz (aa (vI (w64 (b+(e.length:Int)))) (aa (vI (w64 (b+(e.length:Int)))) (ah (ai (aa (vI (w64 (b+(e.length:Int)))) (aa (vB (decide ((w64 (b+(e.length:Int)))<0))) (ah ?_)))))))))))))))))
   obtain ⟨U,q,w⟩:=bind_some w
   refine aR [(0,(vL (eL Alert.enc) a)),(3,(vI (w64 (b+(e.length:Int))))),(9,(vL (eL Alert.enc) a)),(10,(vI (a.length:Int))),(11,(vI (h:Int)))] [] ?_ ?_
   ·rcases aj q with⟨y,q⟩|⟨y,q⟩
    ·refine aA rfl y (au ?_)
     cases q
    ·refine ay rfl y (av ?_)
     obtain rfl:=ae q
     exact cu
   ·rintro ⟨⟩ _ K G t u
    refine aN _ t u (au (dx (bf l O) wz rfl (aa (vI ((h+1:Nat):Int)) (ah ?_))))
    obtain rfl:=ae w
    exact aV (h+1,E,(w64 (b+(e.length:Int)))) ⟨o,aP l⟩ (ls_ _) rfl (aG rfl)
 ·rintro b B K G t u
  subst B
  refine aN _ t u (ai (aa (vI b) ?_))
  obtain ⟨f,P,g⟩:=bind_some g
  refine Kg (enc:=Alert.enc) (pQ P) rfl hb68 (by kernel_rfl) rfl (by kernel_rfl) wz (λI=>aa (kV f I 9 ([]:List Alert)) (ah (ak (ai (aa (vL (eL Alert.enc) a) (bJ un132 rfl wz (aa (vI 0) (ah ?_))))))))
  obtain ⟨T,A,g⟩:=bind_some g
  obtain ⟨M,A⟩:=aS A
  refine gq (σ:=(List Alert)) (N:=Nm) (λp=>(λ(c:List Alert) (d:Nm)=>([(6,(kV f d 9 c))]:SL_)) p.1 p.2) (λp=>(λ(c:List Alert) (d:Nm)=>([(d,kB f 9 Alert.enc c)]:Hp)) p.1 p.2) (λ(m:Nat)=>(λp=>(λ(c:List Alert) (d:Nm)=>([(6,(kV f d 9 c)),(25,(vL (eL Alert.enc) a)),(26,(vI (a.length:Int))),(27,(vI (m:Int)))]:SL_)) p.1 p.2)) (λk x s=>bC k x s) T a (([]:List Alert),I) A rfl (aG rfl) ?_ ?_
  ·rintro ⟨m,C,c,d⟩ ⟨n,j⟩
   dsimp only at n j
   cases C with
   | nil =>
    obtain rfl:=ae n
    refine ai (aa (vB (decide ((m:Int)<(a.length:Int)))) (ah ?_))
    refine ak (ay rfl (drop_nil j) (aX ?_))
    exact aU (c,d) rfl rfl (aG rfl)
   | cons F C =>
    obtain ⟨L,v,n⟩:=bind_some n
    refine ai (aa (vB (decide ((m:Int)<(a.length:Int)))) (ah ?_))
    refine ak (aA rfl (aZ j) (av ?_))
    unfold bC at v
    refine ak (aK (ai (dK Tq rfl rfl (bz j) rfl wz (bK sz26 ag26 rfl (vL Alert.enc F) rfl wz (aa (vL Alert.enc F) (ah (au (aa (kV f d 9 c) (aa (vL Alert.enc F) ?_)))))))))
    obtain ⟨H,Q,v⟩:=bind_some v
    refine Nr 0 il ft (i:=0) Ik Ik fJ z39 rfl (by decide) QQ (by decide) (λ_=>rfl) rfl rfl rfl Q wz (λJ=>aa (kV f J 9 H) (ah (au (dx (bf j M) wz rfl (aa (vI ((m+1:Nat):Int)) (ah ?_))))))
    obtain rfl:=ae v
    exact aV (m+1,C,H,J) ⟨n,aP j⟩ (ls_ _) rfl (aG rfl)
  ·rintro ⟨c,d⟩ B K G t u
   subst B
   refine aN _ t u (ai (aa (kV f d 9 c) (aa (kV f d 9 c) (ah (MN 0 rfl (DV 2 0 rfl rfl (DV 6 0 rfl rfl (DV 35 0 rfl rfl ?_))))))))
   obtain rfl:=ae g
   exact aB (aM [(vL Alert.enc c)] ⟨rfl,trivial⟩)
theorem r9 {b:(List ByteArray)} {r:(List ByteArray)} (a:gG b=some r) :
  FnM Tryz.prog 69 [(vL eS b)] [] (gV (ax 0) 1 r) (([]:List Box).map some++gO 1 eS r):=by
 refine FnM.of_wH ⟨Tryz.prog,8,[],[]⟩ rfl Tryz.func69 rfl rfl (lb_ rfl) (by kernel_rfl) ?_
 unfold gG at a
 refine ai (aa .nil (ah (ak (ai (aa (vL eS b) (OO wY rfl wz (λd e=>ah ?_)))))))
 cases d with
 | true =>
  refine aA rfl rfl ?_
  obtain rfl:=e rfl
  replace a:=JS a
  refine ai (aa .nil (ah (jl (λh => ?_))))
  obtain rfl:=ae a
  exact aB (NJ (outs:=([]:List Box)) (.inr rfl) 0 rfl rfl rfl (by kernel_rfl) (by kernel_rfl))
 | false =>
  refine ay rfl rfl (av (ai (Si qo Cc rfl wz (aa (vL eS b) ?_))))
  obtain ⟨c,f,a⟩:=bind_some a
  refine Sc 0 (.inl rfl) Qd Qd sz9 z9 rfl (by decide) by9 (by decide) (λ_=>rfl) rfl rfl f wz (λg=>aa (gV g 1 c) (ah ?_))
  obtain rfl:=ae a
  exact aB (NJ (outs:=([]:List Box)) (.inr rfl) 0 rfl rfl rfl (by kernel_rfl) (by kernel_rfl))
theorem rW {xs r:(List ByteArray)} (a:gG xs=some r) :
  FnM Tryz.prog 69 [(vL eS xs)] [] (.d (.wild 1 r.length)) [] :=
 FnM.wild (r9 a)
theorem qC {b:(List Rect)} {r:(List Rect)} (a:eX b=some r) :
  FnM Tryz.prog 70 [(vL Rect.enc b)] [] (gV (ax 0) 4 r) (([]:List Box).map some++gO 4 Rect.enc r):=by
 refine FnM.of_wH ⟨Tryz.prog,8,[],[]⟩ rfl Tryz.func70 rfl rfl (lb_ rfl) (by kernel_rfl) ?_
 unfold eX at a
 refine ai (aa .nil (ah (ak (ai (aa (vL Rect.enc b) (OO yP rfl wz (λd e=>ah ?_)))))))
 cases d with
 | true =>
  refine aA rfl rfl ?_
  obtain rfl:=e rfl
  replace a:=JS a
  refine ai (aa .nil (ah (jl (λh => ?_))))
  obtain rfl:=ae a
  exact aB (NJ (outs:=([]:List Box)) (.inr rfl) 0 rfl rfl rfl (by kernel_rfl) (by kernel_rfl))
 | false =>
  refine ay rfl rfl (av (ai (Si BC Tm rfl wz (aa (vL Rect.enc b) ?_))))
  obtain ⟨c,f,a⟩:=bind_some a
  refine Sc 0 (.inl rfl) Ij Ij rV z42 rfl (by decide) Rk (by decide) (λ_=>rfl) rfl rfl f wz (λg=>aa (gV g 4 c) (ah ?_))
  obtain rfl:=ae a
  exact aB (NJ (outs:=([]:List Box)) (.inr rfl) 0 rfl rfl rfl (by kernel_rfl) (by kernel_rfl))
theorem qp {xs r:(List Rect)} (a:eX xs=some r) :
  FnM Tryz.prog 70 [(vL Rect.enc xs)] [] (.d (.wild 4 r.length)) [] :=
 FnM.wild (qC a)
theorem Iw {a:Alert} {r:Alert} (b:tQ a=some r) :
  FnM Tryz.prog 33 [(.d (.agg (Alert.enc a)))] [] (.d (.agg (Alert.encW r))) []:=by
 refine FnM.of_wH ⟨Tryz.prog,12,[],[]⟩ rfl Tryz.func33 rfl rfl (lb_ rfl) (by kernel_rfl) ?_
 unfold tQ at b
 refine ai (eT 0 (.inl rfl) (Alert.v a) rfl rfl wz (λh=>bZ 0 (.inl rfl) z39 rfl wz (λi=>ah (ak (bv (aH qx rfl 3 rfl wz (aC 1 0 (.inr (by kernel_rfl)) (λ_ _ ag=>trivial) zV Cy rfl rfl (vL eS a.Refs) rfl wz ?_)))))))
 obtain ⟨c,f,b⟩:=bind_some b
 refine aD (rW f) rfl hb69 rfl rfl rfl rfl wz (aH ul rfl 7 rfl wz (aC 4 0 (.inr (by kernel_rfl)) (λ_ _ ag=>⟨.inl ⟨rfl,rfl⟩,trivial⟩) CQ FE rfl rfl (vL Rect.enc a.Areas) rfl wz ?_))
 obtain ⟨e,g,b⟩:=bind_some b
 refine aD (qp g) rfl hb70 rfl rfl rfl rfl wz (aH qx rfl 3 rfl wz (gp 7 (.inr (by kernel_rfl)) (λ_ _ ag=>⟨.inr (.inr (by kernel_rfl)),⟨.inr (.inr (by kernel_rfl)),trivial⟩⟩) 0 zV rfl rfl [(vS a.Id),(vS a.Sender),(vI a.Kind),(.d (.wild 1 c.length)),(vI a.At),(vI a.Until),(vI a.Weight),(vL Rect.enc a.Areas),(vS a.Text)] rfl wz (aH ul rfl 7 rfl wz (gp 9 (.inr (by kernel_rfl)) (λ_ _ ag=>⟨.inr (.inr (by kernel_rfl)),⟨.inr (.inr (by kernel_rfl)),⟨.inr (.inr (by kernel_rfl)),trivial⟩⟩⟩) 0 CQ rfl rfl [(vS a.Id),(vS a.Sender),(vI a.Kind),(.d (.wild 1 c.length)),(vI a.At),(vI a.Until),(vI a.Weight),(.d (.wild 4 e.length)),(vS a.Text)] rfl wz (ah (ai (aC 0 0 il ft fJ jZ rfl rfl (.d (.agg (Alert.encW (⟨a.Id,a.Sender,a.Kind,c,a.At,a.Until,a.Weight,e,a.Text⟩:Alert)))) rfl wz (gp 0 il ft 1 fJ rfl rfl [(vS a.Id),(vS a.Sender),(vI a.Kind),(.d (.wild 1 c.length)),(vI a.At),(vI a.Until),(vI a.Weight),(.d (.wild 4 e.length)),(vS a.Text)] rfl wz (ah ?_)))))))))
 obtain rfl:=ae b
 exact aB (aM [(.d (.agg (Alert.encW (⟨a.Id,a.Sender,a.Kind,c,a.At,a.Until,a.Weight,e,a.Text⟩:Alert))))] ⟨⟨1,_,_,_,_,_,_,_,rfl,rfl,fJ,jZ,rfl⟩,trivial⟩)
theorem tY {s1_1:(List ByteArray)} {s2_2:(List ByteArray)} {r:Bool} (b:gH s1_1 s2_2=some r) :
  FnM Tryz.prog 71 [(vL eS s1_1),(vL eS s2_2)] [] (vB r) []:=by
 refine FnM.of_wH ⟨Tryz.prog,26,[],[]⟩ rfl Tryz.func71 rfl rfl (lb_ rfl) (by kernel_rfl) ?_
 unfold gH at b
 refine ai (aa (vB false) (ah (ak (ai (aa (vL eS s1_1) (bJ wY rfl wz (aa (vL eS s2_2) (bJ wY rfl wz (aa (vB ((s1_1.length:Int) != (s2_2.length:Int))) (ah ?_))))))))))
 rcases aj b with⟨h,b⟩|⟨h,b⟩
 ·refine aA rfl h (ai (aa (vB false) (ah ?_)))
  obtain rfl:=ae b
  exact aB (aM [(vB false)] ⟨rfl,trivial⟩)
 ·refine ay rfl h (av (ak (ai (aa (vL eS s1_1) (bJ wY rfl wz (aa (vI 0) (ah ?_)))))))
  obtain ⟨u,i,b⟩:=bind_some b
  obtain ⟨n,i⟩:=aS i
  refine bH (λ(f:Unit)=>[]) (λ(f:Unit)=>[]) (λ(a:Nat)=>(λ(f:Unit)=>[(0,(vL eS s1_1)),(1,(vL eS s2_2)),(12,(vI (s1_1.length:Int))),(13,(vI (a:Int)))])) (λk x s=>dN s2_2 k x s) u s1_1 () i rfl (aG rfl) ?_ ?_
  ·rintro ⟨a,j,f⟩ ⟨e,d⟩
   dsimp only at e d
   cases j with
   | nil =>
    obtain rfl:=ae e
    refine ai (aa (vB (decide ((a:Int)<(s1_1.length:Int)))) (ah ?_))
    refine ak (ay rfl (drop_nil d) (aX ?_))
    exact aU (f) rfl rfl (aG rfl)
   | cons l j =>
    obtain ⟨w,c,e⟩:=bind_some e
    refine ai (aa (vB (decide ((a:Int)<(s1_1.length:Int)))) (ah ?_))
    refine ak (aA rfl (aZ d) (av ?_))
    unfold dN at c
    refine ak (aK (ai (aa (vI (a:Int)) (aa (vI (a:Int)) (ah (ak (bv (aa (vL eS s1_1) (aa (vI (a:Int)) (dK qo rfl rfl (bz d) rfl wz (bK sz9 ag9 rfl (vS l) rfl wz (aa (vL eS s2_2) (aa (vI (a:Int)) ?_)))))))))))))
    obtain ⟨m,t,c⟩:=bind_some c
    refine dK qo rfl rfl t rfl wz (bK sz9 ag9 rfl (vS m) rfl wz (aa (vB (sNe l m)) (ah ?_)))
    rcases aj c with⟨g,c⟩|⟨g,c⟩
    ·refine aA rfl g (ai (aa (vB false) (ah ?_)))
     obtain rfl:=ae c
     obtain rfl:=ae e
     obtain rfl:=ae b
     exact aB (aM [(vB false)] ⟨rfl,trivial⟩)
    ·refine ay rfl g (av (au (dx (bf d n) wz rfl (aa (vI ((a+1:Nat):Int)) (ah ?_)))))
     obtain rfl:=ae c
     exact aV (a+1,j,()) ⟨e,aP d⟩ (ls_ _) rfl (aG rfl)
  ·rintro f o y v p q
   subst o
   refine aN _ p q (ai (aa (vB true) (ah ?_)))
   obtain rfl:=ae b
   exact aB (aM [(vB true)] ⟨rfl,trivial⟩)
theorem qM {s1_1:(List Rect)} {s2_2:(List Rect)} {r:Bool} (b:eY s1_1 s2_2=some r) :
  FnM Tryz.prog 72 [(vL Rect.enc s1_1),(vL Rect.enc s2_2)] [] (vB r) []:=by
 refine FnM.of_wH ⟨Tryz.prog,26,[],[]⟩ rfl Tryz.func72 rfl rfl (lb_ rfl) (by kernel_rfl) ?_
 unfold eY at b
 refine ai (aa (vB false) (ah (ak (ai (aa (vL Rect.enc s1_1) (bJ yP rfl wz (aa (vL Rect.enc s2_2) (bJ yP rfl wz (aa (vB ((s1_1.length:Int) != (s2_2.length:Int))) (ah ?_))))))))))
 rcases aj b with⟨l,b⟩|⟨l,b⟩
 ·refine aA rfl l (ai (aa (vB false) (ah ?_)))
  obtain rfl:=ae b
  exact aB (aM [(vB false)] ⟨rfl,trivial⟩)
 ·refine ay rfl l (av (ak (ai (aa (vL Rect.enc s1_1) (bJ yP rfl wz (aa (vI 0) (ah ?_)))))))
  obtain ⟨v,m,b⟩:=bind_some b
  obtain ⟨o,m⟩:=aS m
  refine bH (λ(g:Unit)=>[]) (λ(g:Unit)=>[]) (λ(a:Nat)=>(λ(g:Unit)=>[(0,(vL Rect.enc s1_1)),(1,(vL Rect.enc s2_2)),(12,(vI (s1_1.length:Int))),(13,(vI (a:Int)))])) (λk x s=>dh s2_2 k x s) v s1_1 () m rfl (aG rfl) ?_ ?_
  ·rintro ⟨a,n,g⟩ ⟨f,e⟩
   dsimp only at f e
   cases n with
   | nil =>
    obtain rfl:=ae f
    refine ai (aa (vB (decide ((a:Int)<(s1_1.length:Int)))) (ah ?_))
    refine ak (ay rfl (drop_nil e) (aX ?_))
    exact aU (g) rfl rfl (aG rfl)
   | cons h n =>
    obtain ⟨y,c,f⟩:=bind_some f
    refine ai (aa (vB (decide ((a:Int)<(s1_1.length:Int)))) (ah ?_))
    refine ak (aA rfl (aZ e) (av ?_))
    unfold dh at c
    refine ak (aK (ai (aa (vI (a:Int)) (aa (vI (a:Int)) (ah (ak (bv (aa (vL Rect.enc s1_1) (aa (vI (a:Int)) (dK BC rfl rfl (bz e) rfl wz (bK rV Ed rfl (.d (.agg (Rect.enc h))) rfl wz (aa (vL Rect.enc s2_2) (aa (vI (a:Int)) ?_)))))))))))))
    obtain ⟨i,u,c⟩:=bind_some c
    refine dK BC rfl rfl u rfl wz (bK rV Ed rfl (.d (.agg (Rect.enc i))) rfl wz (aJ (vB (!((h.X==i.X)&&((h.Y==i.Y)&&((h.W==i.W)&&((h.H==i.H)&&true)))))) wz (by kernel_rfl) (ah ?_)))
    rcases aj c with⟨j,c⟩|⟨j,c⟩
    ·refine aA rfl j (ai (aa (vB false) (ah ?_)))
     obtain rfl:=ae c
     obtain rfl:=ae f
     obtain rfl:=ae b
     exact aB (aM [(vB false)] ⟨rfl,trivial⟩)
    ·refine ay rfl j (av (au (dx (bf e o) wz rfl (aa (vI ((a+1:Nat):Int)) (ah ?_)))))
     obtain rfl:=ae c
     exact aV (a+1,n,()) ⟨f,aP e⟩ (ls_ _) rfl (aG rfl)
  ·rintro g p z w q t
   subst p
   refine aN _ q t (ai (aa (vB true) (ah ?_)))
   obtain rfl:=ae b
   exact aB (aM [(vB true)] ⟨rfl,trivial⟩)
theorem IQ {b:Alert} {c:Alert} {r:Bool} (e:vZ b c=some r) :
  FnM Tryz.prog 34 [(.d (.agg (Alert.enc b))),(.d (.agg (Alert.enc c)))] [] (vB r) []:=by
 refine FnM.of_wH ⟨Tryz.prog,66,[],[]⟩ rfl Tryz.func34 rfl rfl (lb_ rfl) (by kernel_rfl) ?_
 unfold vZ at e
 refine ai (eT 0 (.inl rfl) (Alert.v b) rfl rfl wz (λt=>eT 0 (.inl rfl) (Alert.v c) rfl rfl wz (λu=>aa (vB false) (ah (ak ?_)))))
 obtain ⟨n,a,e⟩:=bind_some e
 refine aR [(4,(vB n))] [(t,some (.cells 9 (Alert.v b))),(u,some (.cells 9 (Alert.v c)))] ?_ ?_
 ·refine au (aH kZ rfl 0 rfl wz (aC 0 0 il ft sz9 ag9 rfl rfl (vS b.Id) rfl wz (aH kZ rfl 0 rfl wz (aC 0 1 il ft sz9 ag9 rfl rfl (vS c.Id) rfl wz (aa (vB (sEq b.Id c.Id)) ?_)))))
  rcases aj a with⟨k,a⟩|⟨k,a⟩
  ·refine aF rfl k wz (aH Ez rfl 1 rfl wa (aC 0 0 il ft sz9 ag9 rfl rfl (vS b.Sender) rfl wa (aH Ez rfl 1 rfl wa (aC 0 1 il ft sz9 ag9 rfl rfl (vS c.Sender) rfl wa (aJ (vB (sEq b.Sender c.Sender)) wa rfl (aa (vB (sEq b.Sender c.Sender)) ?_))))))
   rcases aj a with⟨l,a⟩|⟨l,a⟩
   ·refine aF rfl l wz (aH xk rfl 2 rfl wa (aC 0 0 il ft sz3 ag3 rfl rfl (vI b.Kind) rfl wa (aH xk rfl 2 rfl wa (aC 0 1 il ft sz3 ag3 rfl rfl (vI c.Kind) rfl wa (aJ (vB (b.Kind==c.Kind)) wa rfl (aa (vB (b.Kind==c.Kind)) ?_))))))
    rcases aj a with⟨m,a⟩|⟨m,a⟩
    ·refine aF rfl m wz (aH qx rfl 3 rfl wa (aC 0 0 il ft zV Cy rfl rfl (vL eS b.Refs) rfl wa (aH qx rfl 3 rfl wa (aC 0 1 il ft zV Cy rfl rfl (vL eS c.Refs) rfl wa ?_))))
     obtain ⟨w,q,a⟩:=bind_some a
     refine aD (tY q) rfl hb71 rfl rfl rfl rfl wa (aa (vB w) ?_)
     rcases aj a with⟨f,a⟩|⟨f,a⟩
     ·refine aF rfl f wz (aH lg rfl 4 rfl wa (aC 0 0 il ft sz3 ag3 rfl rfl (vI b.At) rfl wa (aH lg rfl 4 rfl wa (aC 0 1 il ft sz3 ag3 rfl rfl (vI c.At) rfl wa (aJ (vB (b.At==c.At)) wa rfl (aa (vB (b.At==c.At)) ?_))))))
      rcases aj a with⟨g,a⟩|⟨g,a⟩
      ·refine aF rfl g wz (aH DC rfl 5 rfl wa (aC 0 0 il ft sz3 ag3 rfl rfl (vI b.Until) rfl wa (aH DC rfl 5 rfl wa (aC 0 1 il ft sz3 ag3 rfl rfl (vI c.Until) rfl wa (aJ (vB (b.Until==c.Until)) wa rfl (aa (vB (b.Until==c.Until)) ?_))))))
       rcases aj a with⟨h,a⟩|⟨h,a⟩
       ·refine aF rfl h wz (aH DU rfl 6 rfl wa (aC 0 0 il ft sz3 ag3 rfl rfl (vI b.Weight) rfl wa (aH DU rfl 6 rfl wa (aC 0 1 il ft sz3 ag3 rfl rfl (vI c.Weight) rfl wa (aJ (vB (b.Weight==c.Weight)) wa rfl (aa (vB (b.Weight==c.Weight)) ?_))))))
        rcases aj a with⟨i,a⟩|⟨i,a⟩
        ·refine aF rfl i wz (aH ul rfl 7 rfl wa (aC 0 0 il ft CQ FE rfl rfl (vL Rect.enc b.Areas) rfl wa (aH ul rfl 7 rfl wa (aC 0 1 il ft CQ FE rfl rfl (vL Rect.enc c.Areas) rfl wa ?_))))
         obtain ⟨x,s,a⟩:=bind_some a
         refine aD (qM s) rfl hb72 rfl rfl rfl rfl wa (aa (vB x) ?_)
         rcases aj a with⟨j,a⟩|⟨j,a⟩
         ·refine aF rfl j wz (aH Am rfl 8 rfl wa (aC 0 0 il ft sz9 ag9 rfl rfl (vS b.Text) rfl wa (aH Am rfl 8 rfl wa (aC 0 1 il ft sz9 ag9 rfl rfl (vS c.Text) rfl wa (aJ (vB (sEq b.Text c.Text)) wa rfl (aa (vB (sEq b.Text c.Text)) (aa (vB (sEq b.Text c.Text)) (ah ?_))))))))
          obtain rfl:=ae a
          exact cu
         ·refine aF rfl j wz (af (af (af (af (af (aa (vB false) (aa (vB false) (ah ?_))))))))
          obtain rfl:=ae a
          exact cu
        ·refine aF rfl i wz (af (af (af (af (af (aa (vB false) (aa (vB false) (af (af (af (af (af (aa (vB false) (aa (vB false) (ah ?_)))))))))))))))
         obtain rfl:=ae a
         exact cu
       ·refine aF rfl h wz (af (af (af (af (af (aa (vB false) (aa (vB false) (af (af (af (af (af (aa (vB false) (aa (vB false) (af (af (af (af (af (aa (vB false) (aa (vB false) (ah ?_))))))))))))))))))))))
        obtain rfl:=ae a
        exact cu
      ·refine aF rfl g wz (af (af (af (af (af (aa (vB false) (aa (vB false) (af (af (af (af (af (aa (vB false) (aa (vB false) (af (af (af (af (af (aa (vB false) (aa (vB false) (af (af ?_)))))))))))))))))))))))
       refine af (af (af (aa (vB false) (aa (vB false) (ah ?_)))))
       obtain rfl:=ae a
       exact cu
     ·refine aF rfl f wz (af (af (af (af (af (aa (vB false) (aa (vB false) (af (af (af (af (af (aa (vB false) (aa (vB false) (af (af (af (af (af (aa (vB false) (aa (vB false) (af (af ?_)))))))))))))))))))))))
      refine af (af (af (aa (vB false) (aa (vB false) (af (af (af (af (af (aa (vB false) (aa (vB false) (ah ?_))))))))))))
      obtain rfl:=ae a
      exact cu
    ·refine aF rfl m wz (af (af (af (af (af (aa (vB false) (aa (vB false) (af (af (af (af (af (aa (vB false) (aa (vB false) (af (af (af (af (af (aa (vB false) (aa (vB false) (af (af ?_)))))))))))))))))))))))
     refine af (af (af (aa (vB false) (aa (vB false) (af (af (af (af (af (aa (vB false) (aa (vB false) (af (af (af (af (af (aa (vB false) (aa (vB false) (ah ?_)))))))))))))))))))
     obtain rfl:=ae a
     exact cu
   ·refine aF rfl l wz (af (af (af (af (af (aa (vB false) (aa (vB false) (af (af (af (af (af (aa (vB false) (aa (vB false) (af (af (af (af (af (aa (vB false) (aa (vB false) (af (af ?_)))))))))))))))))))))))
    refine af (af (af (aa (vB false) (aa (vB false) (af (af (af (af (af (aa (vB false) (aa (vB false) (af (af (af (af (af (aa (vB false) (aa (vB false) (af (af (af (af (af ?_)))))))))))))))))))))))
    refine aa (vB false) (aa (vB false) (ah ?_))
    obtain rfl:=ae a
    exact cu
  ·refine aF rfl k wz (af (af (af (af (af (aa (vB false) (aa (vB false) (af (af (af (af (af (aa (vB false) (aa (vB false) (af (af (af (af (af (aa (vB false) (aa (vB false) (af (af ?_)))))))))))))))))))))))
   refine af (af (af (aa (vB false) (aa (vB false) (af (af (af (af (af (aa (vB false) (aa (vB false) (af (af (af (af (af (aa (vB false) (aa (vB false) (af (af (af (af (af ?_)))))))))))))))))))))))
   refine aa (vB false) (aa (vB false) (af (af (af (af (af (aa (vB false) (aa (vB false) (ah ?_)))))))))
   obtain rfl:=ae a
   exact cu
 ·rintro ⟨⟩ _ z y o p
  refine aN _ o p ?_
  obtain rfl:=ae e
  exact aB (aM [(vB n)] ⟨rfl,trivial⟩)
theorem Bd {a:Alert} {b:Alert} {r:Int} (c:sN a b=some r) :
  FnM Tryz.prog 35 [(.d (.agg (Alert.encW a))),(.d (.agg (Alert.encW b)))] [] (vI r) []:=by
 refine FnM.of_wH ⟨Tryz.prog,17,[],[]⟩ rfl Tryz.func35 rfl rfl (lb_ rfl) (by kernel_rfl) ?_
 unfold sN at c
 refine ai (eT 0 (.inl rfl) [(vS a.Id),(vS a.Sender),(vI a.Kind),(.d (.wild 1 a.Refs.length)),(vI a.At),(vI a.Until),(vI a.Weight),(.d (.wild 4 a.Areas.length)),(vS a.Text)] rfl rfl wz (λk=>eT 0 (.inl rfl) [(vS b.Id),(vS b.Sender),(vI b.Kind),(.d (.wild 1 b.Refs.length)),(vI b.At),(vI b.Until),(vI b.Weight),(.d (.wild 4 b.Areas.length)),(vS b.Text)] rfl rfl wz (λl=>aa (vI 0) (ah (ak (bv (aH lg rfl 4 rfl wz (aC 1 0 (.inr (by kernel_rfl)) (λ_ _ ag=>trivial) sz3 ag3 rfl rfl (vI a.At) rfl wz (aH lg rfl 4 rfl wz (aC 3 1 (.inr (by kernel_rfl)) (λ_ _ ag=>⟨.inl ⟨rfl,rfl⟩,trivial⟩) sz3 ag3 rfl rfl (vI b.At) rfl wz ?_))))))))))
 obtain ⟨i,g,c⟩:=bind_some c
 refine aD (iT g) rfl Oa rfl rfl rfl rfl wz (aH kZ rfl 0 rfl wz (aC 6 0 (.inr (by kernel_rfl)) (λ_ _ ag=>⟨.inl ⟨rfl,rfl⟩,⟨.inl ⟨rfl,rfl⟩,trivial⟩⟩) sz9 ag9 rfl rfl (vS a.Id) rfl wz (aH kZ rfl 0 rfl wz (aC 8 1 (.inr (by kernel_rfl)) (λ_ _ ag=>⟨.inl ⟨rfl,rfl⟩,⟨.inl ⟨rfl,rfl⟩,⟨.inl ⟨rfl,rfl⟩,trivial⟩⟩⟩) sz9 ag9 rfl rfl (vS b.Id) rfl wz ?_))))
 obtain ⟨j,h,c⟩:=bind_some c
 refine aD (gL h) rfl LJ rfl rfl rfl rfl wz (dW (([i,j]:List Int).map eI) nZ BI rfl rfl rfl rfl rfl wz ?_)
 obtain ⟨e,f,c⟩:=bind_some c
 refine aD (lV f) rfl Np rfl rfl rfl rfl wz (aa (vI e) (ah ?_))
 obtain rfl:=ae c
 exact aB (aM [(vI e)] ⟨rfl,trivial⟩)
end Go.Proofs.YtadpbmfnnlkdlacGreatDoor.Law

