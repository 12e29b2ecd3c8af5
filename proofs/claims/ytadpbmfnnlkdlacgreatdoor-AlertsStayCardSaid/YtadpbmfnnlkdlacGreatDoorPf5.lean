/-
 The machine computes these plain functions (written by a program of ours).
-/
import Derived.Test.YtadpbmfnnlkdlacGreatDoorFacts
import Derived.Test.YtadpbmfnnlkdlacGreatDoorDefs
import Derived.Test.YtadpbmfnnlkdlacGreatDoorPf4
import Derived.Test.YtadpbmfnnlkdlacGreatDoorShelf
open Go Go.Eng Go.Proofs
namespace Go.Proofs.YtadpbmfnnlkdlacGreatDoor.Law
set_option maxRecDepth 100000
set_option linter.unusedVariables false
set_option maxHeartbeats 1000000
theorem FB {b:(List Alert)} {m:(List Int)} {g:Post} {l:Int} {r:(List Alert)} (h:rJ b m g l=some r) :
  FnM Tryz.prog 56 [(vL Alert.enc b),(vL eI m),(.d (.agg (Post.enc g))),(vI l)] [] (vL Alert.enc r) []:=by
 refine FnM.of_wH ⟨Tryz.prog,39,[],[]⟩ rfl Tryz.func56 rfl rfl (lb_ rfl) (by kernel_rfl) ?_
 unfold rJ at h
 refine ai (eT 0 (.inl rfl) (Post.v g) rfl rfl wz (λo=>aa .nil (ah (ai (aa .nil (ah (ak (ai (aa (vL Alert.enc b) (bJ uS rfl wz (aa (vI 0) (ah (jl (λX => ?_))))))))))))))
 obtain ⟨Y,F,h⟩:=bind_some h
 obtain ⟨O,F⟩:=aS F
 refine gq (σ:=(List Alert)) (N:=Nm) (λp=>(λ(c:List Alert) (a:Nm)=>([(9,(gV a 9 c))]:SL_)) p.1 p.2) (λp=>(λ(c:List Alert) (a:Nm)=>([(o,some (.cells 3 (Post.v g))),(a,gB 9 Alert.enc c)]:Hp)) p.1 p.2) (λ(f:Nat)=>(λp=>(λ(c:List Alert) (a:Nm)=>([(1,(vL eI m)),(3,(vI l)),(6,(.ref o 0 0)),(9,(gV a 9 c)),(12,(vL Alert.enc b)),(13,(vI (b.length:Int))),(14,(vI (f:Int)))]:SL_)) p.1 p.2)) (λk x s=>ny m l g k x s) Y b (([]:List Alert),X) F rfl (aG rfl) ?_ ?_
 ·rintro ⟨f,G,c,a⟩ ⟨w,q⟩
  dsimp only at w q
  cases G with
  | nil =>
   obtain rfl:=ae w
   refine ai (aa (vB (decide ((f:Int)<(b.length:Int)))) (ah ?_))
   refine ak (ay rfl (drop_nil q) (aX ?_))
   exact aU (c,a) rfl rfl (aG rfl)
  | cons j G =>
   obtain ⟨Â,t,w⟩:=bind_some w
   refine ai (aa (vB (decide ((f:Int)<(b.length:Int)))) (ah ?_))
   refine ak (aA rfl (aZ q) (av ?_))
   unfold ny at t
   refine ak (aK (ai (aa (vI (f:Int)) (dK mH rfl rfl (bz q) rfl wz (bK fJ jZ rfl (.d (.agg (Alert.enc j))) rfl wz (bZ 0 (.inl rfl) z39 rfl wz (λH=>aa (vI (f:Int)) (gp 0 il ft 2 fJ rfl rfl (Alert.v j) rfl wz (ah (ak ?_))))))))))
   obtain ⟨À,e,t⟩:=bind_some t
   refine aR [(1,(vL eI m)),(3,(vI l)),(6,(.ref o 0 0)),(9,(gV a 9 c)),(11,(.ref H 0 0)),(12,(vL Alert.enc b)),(13,(vI (b.length:Int))),(14,(vI (f:Int))),(30,(vB À))] [(o,some (.cells 3 (Post.v g))),(a,gB 9 Alert.enc c),(H,some (.cells 9 (Alert.v j)))] ?_ ?_
   ·refine bv (aC 0 2 (.inr (by kernel_rfl)) (λ_ _ ag=>trivial) fJ jZ rfl rfl (.d (.agg (Alert.enc j))) rfl wz (aa (vL eI m) (aa (vI (f:Int)) ?_)))
    obtain ⟨Á,U,e⟩:=bind_some e
    refine dK nZ rfl rfl U rfl wz (bK sz3 ag3 rfl (vI Á) rfl wz (aa (vI l) ?_))
    obtain ⟨Ã,Q,e⟩:=bind_some e
    refine aD (IY Q) rfl hb83 rfl rfl rfl rfl wz ?_
    rcases aj e with⟨C,e⟩|⟨C,e⟩
    ·refine aF rfl C wz (aC 8 2 (.inr (by kernel_rfl)) (λ_ _ ag=>⟨.inl ⟨rfl,rfl⟩,trivial⟩) fJ jZ rfl rfl (.d (.agg (Alert.enc j))) rfl wa (aC 9 0 (.inr (by kernel_rfl)) (λ_ _ ag=>⟨.inl ⟨rfl,rfl⟩,⟨.inl ⟨rfl,rfl⟩,trivial⟩⟩) BZ Ii rfl rfl (.d (.agg (Post.enc g))) rfl wa ?_))
     obtain ⟨Z,R,e⟩:=bind_some e
     refine aD (sH R) rfl hb79 rfl rfl rfl rfl wa (aa (vB Z) (ah ?_))
     obtain rfl:=ae e
     exact cu
    ·refine aF rfl C wz (af (af (af (aa (vB false) (ah ?_)))))
     obtain rfl:=ae e
     exact cu
   ·rintro ⟨⟩ _ L J y z
    refine aN _ y z ?_
    obtain ⟨I,n,t⟩:=bind_some t
    refine kT (β:=Nm) (λ(B:Nm)=>([(1,(vL eI m)),(3,(vI l)),(6,(.ref o 0 0)),(9,(gV B 9 I)),(12,(vL Alert.enc b)),(13,(vI (b.length:Int))),(14,(vI (f:Int)))]:SL_)) (λ(B:Nm)=>([(o,some (.cells 3 (Post.v g))),(B,gB 9 Alert.enc I),(H,some (.cells 9 (Alert.v j)))]:Hp)) (λ_=>True) ?_ ?_
    ·rcases aj n with⟨E,n⟩|⟨E,n⟩
     ·refine aA rfl E (au (aa (gV a 9 c) (aC 0 2 il ft fJ jZ rfl rfl (.d (.agg (Alert.enc j))) rfl wz (dW (([j]:List Alert).map Alert.enc) mH Qv rfl rfl rfl rfl rfl wz ?_))))
      obtain ⟨M,W,n⟩:=bind_some n
      refine lh 0 il ft (i:=1) Ik Ik fJ z39 rfl (by decide) QQ (by decide) (λ_=>rfl) rfl rfl rfl W wz (λK=>aa (gV K 9 M) (ah ?_))
      obtain rfl:=ae n
      exact aU K trivial rfl (aG rfl)
     ·refine ay rfl E (av ?_)
      obtain rfl:=ae n
      exact aU a trivial rfl (aG rfl)
    ·rintro B _ L J y z
     refine aN _ y z (au (dx (bf q O) wz rfl (aa (vI ((f+1:Nat):Int)) (ah ?_))))
     obtain rfl:=ae t
     exact aV (f+1,G,I,B) ⟨w,aP q⟩ (ls_ _) rfl (aG rfl)
 ·rintro ⟨c,a⟩ P L J y z
  subst P
  refine aN _ y z (ai (aa (gV a 9 c) ?_))
  obtain ⟨u,T,h⟩:=bind_some h
  obtain ⟨_,A,h⟩:=bind_some h
  replace A:=jQ A
  refine kC 0 [] 1 0 il ft (nE T) rfl hb27 rfl rfl rfl (by kernel_rfl) rfl (.inl rfl) rfl (by kernel_rfl) (by kernel_rfl) (by kernel_rfl) (by kernel_rfl) rfl (by decide) (by kernel_rfl) jN (tV A) wz ([(o,some (.cells 3 (Post.v g))),(a,gB 9 Alert.enc u)]:Hp) (by kernel_rfl) (bT (v':=(gV a 9 u)) 36 rfl (fC A.symm) (bT (v':=(gV a 9 u)) 9 rfl (fC A.symm) (ah (ai (aa (gV a 9 u) (aa (gV a 9 u) (ah (jP 1 rfl (fI 8 1 rfl rfl (fI 9 1 rfl rfl (fI 36 1 rfl rfl (fI 38 1 rfl rfl ?_))))))))))))
  obtain rfl:=ae h
  exact aB (aM [(vL Alert.enc u)] ⟨rfl,trivial⟩)
theorem wF {c:(List Pair_)} {r:(List Pair_)} (h:ku c=some r) :
  FnM Tryz.prog 16 [(dV (ax 0) 2 c)] (([]:List Box)++gI 2 Pair_.enc c) (.tup []) (([]:List Box).map some++gT c (gB 2 Pair_.enc r)):=by
 refine FnM.of_wHv ⟨Tryz.prog,14,[],[]⟩ rfl Tryz.func16 rfl rfl (lb_ rfl) (by kernel_rfl) ?_
 unfold ku at h
 refine ai (bZ 0 (.inl rfl) z60 rfl wz (λl=>ah (ai (aa (dV (ax 0) 2 c) (wZ un55 rfl wz (aa (vI 0) (ah ?_)))))))
 obtain ⟨u,i,h⟩:=bind_some h
 obtain ⟨n,i⟩:=aS i
 refine bH (λ(a:List Pair_)=>[]) (λ(a:List Pair_)=>[((ax 0),gB 2 Pair_.enc a),(l,some (.cells 2 [(vS (⟨#[]⟩:ByteArray)),(vS (⟨#[]⟩:ByteArray))]))]) (λ(b:Nat)=>(λ(a:List Pair_)=>[(0,(dV (ax 0) 2 a)),(2,(.ref l 0 0)),(5,(vI (c.length:Int))),(6,(vI (b:Int)))])) (λk x s=>jv k x s) u (List.range ((c.length:Int)).toNat) c i rfl (aG rfl) ?_ ?_
 ·rintro ⟨b,j,a⟩ ⟨g,f⟩
  dsimp only at g f
  cases j with
  | nil =>
   obtain rfl:=ae g
   refine ai (aa (vB (decide ((b:Int)<(c.length:Int)))) (ah ?_))
   refine ak (ay rfl (mg f) (aX ?_))
   exact aU (a) rfl rfl (aG rfl)
  | cons B j =>
   obtain ⟨w,e,g⟩:=bind_some g
   refine ai (aa (vB (decide ((b:Int)<(c.length:Int)))) (ah ?_))
   refine ak (aA rfl (kR f) (av ?_))
   unfold jv at e
   refine ak (aK (ai (aa (vI (b:Int)) (aa (vI (b:Int)) (ah (au (aa (dV (ax 0) 2 a) (aa (vI (b:Int)) (aC 0 1 il ft sz60 ag60 rfl rfl (.d (.agg (Pair_.enc (⟨(⟨#[]⟩:ByteArray),(⟨#[]⟩:ByteArray)⟩:Pair_)))) rfl wz ?_)))))))))
   obtain ⟨_,m,e⟩:=bind_some e
   refine iZ es55 rfl rfl (gN m) (dP m) wz ?_
   obtain ⟨y,t,e⟩:=bind_some e
   refine pR 0 il ft 0 sz60 rfl rfl t (⟨(⟨#[]⟩:ByteArray),(⟨#[]⟩:ByteArray)⟩:Pair_) rfl wz (bT (v':=(dV (ax 0) 2 (a.set (0+((b:Int)).toNat) (⟨(⟨#[]⟩:ByteArray),(⟨#[]⟩:ByteArray)⟩:Pair_)))) 0 rfl (bP (by simp)) (bT (v':=(dV (ax 0) 2 (a.set (0+((b:Int)).toNat) (⟨(⟨#[]⟩:ByteArray),(⟨#[]⟩:ByteArray)⟩:Pair_)))) 9 rfl (bP (by simp)) (ah (au (dx (ma f n) wz rfl (aa (vI ((b+1:Nat):Int)) (ah ?_)))))))
   obtain rfl:=ae e
   exact aV (b+1,j,(a.set (0+((b:Int)).toNat) (⟨(⟨#[]⟩:ByteArray),(⟨#[]⟩:ByteArray)⟩:Pair_))) ⟨g,aP f⟩ (ls_ _) rfl (aG rfl)
 ·rintro a p A v z q
  subst p
  show pI _ _ _ _ _ _ _ _
  obtain rfl:=ae h
  exact nV (H0:=([((ax 0),gB 2 Pair_.enc a),(l,some (.cells 2 [(vS (⟨#[]⟩:ByteArray)),(vS (⟨#[]⟩:ByteArray))]))]:Hp)) (sl':=envS []) q (uY (bs:=([]:List Box)) (os:=([]:List Box)) (xs:=c) (o:=gB 2 Pair_.enc a) (.inl rfl) [] trivial rfl rfl rfl rfl rfl (by kernel_rfl) jN rfl)
theorem CV {g:(List Alert)} {c:(List Post)} {h:Int} {r:(List Pair_)×Int} (a:p9 g c h=some r) :
  FnM Tryz.prog 15 [(vL Alert.enc g),(vL Post.enc c),(vI h)] [] (wL [.int .i64 r.2] (gV (ax 0) 2 r.1)) (([]:List Box).map some++gO 2 Pair_.enc r.1):=by
 refine FnM.of_wH ⟨Tryz.prog,54,[],[]⟩ rfl Tryz.func15 rfl rfl (lb_ rfl) (by kernel_rfl) ?_
 unfold p9 at a
 refine ai (aa .nil (aa (vI 0) (ah (ak (ai (aa (vL Alert.enc g) (aa (vL Post.enc c) ?_)))))))
 obtain ⟨o,R,a⟩:=bind_some a
 refine aD (qz R) rfl hb54 rfl rfl rfl rfl wz (aa (vI o) (ah (ai (aa (vI o) (aa (vB (o != 0)) (ah ?_))))))
 rcases aj a with⟨C,a⟩|⟨C,a⟩
 ·refine aA rfl C (ai (aa (vI o) (aa .nil (aa (vI o) (ah (jl (λÃ => ?_)))))))
  obtain rfl:=ae a
  exact aB (Bo (outs:=([]:List Box)) [.int .i64 o] (.inr rfl) 0 rfl ⟨rfl,trivial⟩ rfl rfl (by kernel_rfl) (by kernel_rfl))
 ·refine ay rfl C (av (ak (ai (aa (vI h) ?_))))
  obtain ⟨q,T,a⟩:=bind_some a
  refine aD (Ad T) rfl hb55 rfl rfl rfl rfl wz (aa (vI q) (ah (ai (aa (vI q) (aa (vB (q != 0)) (ah ?_))))))
  rcases aj a with⟨A,a⟩|⟨A,a⟩
  ·refine aA rfl A (ai (aa (vI q) (aa .nil (aa (vI q) (ah (jl (λÂ => ?_)))))))
   obtain rfl:=ae a
   exact aB (Bo (outs:=([]:List Box)) [.int .i64 q] (.inr rfl) 0 rfl ⟨rfl,trivial⟩ rfl rfl (by kernel_rfl) (by kernel_rfl))
  ·refine ay rfl A (av (ai (aa (vL Alert.enc g) ?_)))
   obtain ⟨w,P,a⟩:=bind_some a
   refine aD (Bp P) rfl hb49 rfl rfl rfl rfl wz (aa (vL eI w) (ah (ai (aa .nil (ah (ak (ai (aa (vL Post.enc c) (bJ Nw rfl wz (aa (vI 0) (ah (jl (λX => ?_)))))))))))))
   obtain ⟨Z,E,a⟩:=bind_some a
   obtain ⟨M,E⟩:=aS E
   refine gq (σ:=(List Pair_)) (N:=Nm) (λp=>(λ(e:List Pair_) (b:Nm)=>([(11,(gV b 2 e))]:SL_)) p.1 p.2) (λp=>(λ(e:List Pair_) (b:Nm)=>([(b,gB 2 Pair_.enc e)]:Hp)) p.1 p.2) (λ(j:Nat)=>(λp=>(λ(e:List Pair_) (b:Nm)=>([(0,(vL Alert.enc g)),(2,(vI h)),(10,(vL eI w)),(11,(gV b 2 e)),(28,(vL Post.enc c)),(29,(vI (c.length:Int))),(30,(vI (j:Int)))]:SL_)) p.1 p.2)) (λk x s=>mD g w h k x s) Z c (([]:List Pair_),X) E rfl (aG rfl) ?_ ?_
   ·rintro ⟨j,H,e,b⟩ ⟨t,m⟩
    dsimp only at t m
    cases H with
    | nil =>
     obtain rfl:=ae t
     refine ai (aa (vB (decide ((j:Int)<(c.length:Int)))) (ah ?_))
     refine ak (ay rfl (drop_nil m) (aX ?_))
     exact aU (e,b) rfl rfl (aG rfl)
    | cons l H =>
     obtain ⟨Á,n,t⟩:=bind_some t
     refine ai (aa (vB (decide ((j:Int)<(c.length:Int)))) (ah ?_))
     refine ak (aA rfl (aZ m) (av ?_))
     unfold mD at n
     refine ak (aK (ai (dK MU rfl rfl (bz m) rfl wz (bK BZ Ii rfl (.d (.agg (Post.enc l))) rfl wz (bZ 0 (.inl rfl) z65 rfl wz (λY=>gp 0 il ft 1 BZ rfl rfl (Post.v l) rfl wz (ah (ai (aa (vL Alert.enc g) (aa (vL eI w) (aC 0 1 il ft BZ Ii rfl rfl (.d (.agg (Post.enc l))) rfl wz (aa (vI h) ?_))))))))))))
     obtain ⟨y,Q,n⟩:=bind_some n
     refine aD (FB Q) rfl hb56 rfl rfl rfl rfl wz (aa (vL Alert.enc y) (ah (ai (aa (vL Alert.enc y) (bJ uS rfl wz (aa (vB (decide ((y.length:Int)>0))) (ah ?_)))))))
     obtain ⟨I,f,n⟩:=bind_some n
     refine kT (β:=Nm) (λ(u:Nm)=>([(0,(vL Alert.enc g)),(2,(vI h)),(10,(vL eI w)),(11,(gV u 2 I)),(28,(vL Post.enc c)),(29,(vI (c.length:Int))),(30,(vI (j:Int)))]:SL_)) (λ(u:Nm)=>([(u,gB 2 Pair_.enc I),(Y,some (.cells 3 (Post.v l)))]:Hp)) (λ_=>True) ?_ ?_
     ·rcases aj f with⟨B,f⟩|⟨B,f⟩
      ·refine aA rfl B (bv (aa (gV b 2 e) (aH Cj rfl 0 rfl wz (aC 2 1 (.inr (by kernel_rfl)) (λ_ _ ag=>trivial) sz9 ag9 rfl rfl (vS l.Player) rfl wz (aa (vL Alert.enc y) ?_)))))
       obtain ⟨z,U,f⟩:=bind_some f
       refine dK mH rfl rfl U rfl wz (uJ kZ rfl (Alert.enc z) rfl rfl wz (bK sz9 ag9 rfl (vS z.Id) rfl wz (aJ (.d (.agg (Pair_.enc (⟨l.Player,z.Id⟩:Pair_)))) wz (by kernel_rfl) (dW (([(⟨l.Player,z.Id⟩:Pair_)]:List Pair_).map Pair_.enc) es55 ez55 rfl rfl rfl rfl rfl wz ?_))))
       obtain ⟨L,W,f⟩:=bind_some f
       refine lh 9 (.inr (by kernel_rfl)) (λ_ _ ag=>⟨.inr (.inr (by kernel_rfl)),trivial⟩) (i:=0) el55 el55 sz60 z60 rfl (by decide) by60 (by decide) (λ_=>rfl) rfl rfl rfl W wz (λJ=>aa (gV J 2 L) (ah ?_))
       obtain rfl:=ae f
       exact aU J trivial rfl (aG rfl)
      ·refine ay rfl B (av ?_)
       obtain rfl:=ae f
       exact aU b trivial rfl (aG rfl)
     ·rintro u _ À K F G
      refine aN _ F G (au (dx (bf m M) wz rfl (aa (vI ((j+1:Nat):Int)) (ah ?_))))
      obtain rfl:=ae n
      exact aV (j+1,H,I,u) ⟨t,aP m⟩ (ls_ _) rfl (aG rfl)
   ·rintro ⟨e,b⟩ O À K F G
    subst O
    refine aN _ F G (ai (aa (gV b 2 e) (aa (gV b 2 e) (aa (vI 0) (ah ?_)))))
    obtain rfl:=ae a
    exact aB (Bo (outs:=([]:List Box)) [.int .i64 0] (.inr rfl) 0 rfl ⟨rfl,trivial⟩ rfl rfl (by kernel_rfl) (by kernel_rfl))
theorem Da {r:(List ByteArray)} (a:qR  = some r) :
  FnM Tryz.prog 85 [] [] (vL eS r) []:=by
 refine FnM.of_wH ⟨Tryz.prog,2,[],[]⟩ rfl Tryz.func85 rfl rfl (lb_ rfl) (by kernel_rfl) ?_
 unfold qR at a
 refine ai (aa .nil (ah (ai (dW (([(⟨#[]⟩:ByteArray),(⟨#[110,101,119]⟩:ByteArray),(⟨#[117,112,100,97,116,101]⟩:ByteArray),(⟨#[99,97,110,99,101,108]⟩:ByteArray)]:List ByteArray).map eS) qo Cc rfl rfl rfl rfl rfl wz (aa (vL eS ([(⟨#[]⟩:ByteArray),(⟨#[110,101,119]⟩:ByteArray),(⟨#[117,112,100,97,116,101]⟩:ByteArray),(⟨#[99,97,110,99,101,108]⟩:ByteArray)]:List ByteArray)) (ah ?_))))))
 obtain rfl:=ae a
 exact aB (aM [(vL eS ([(⟨#[]⟩:ByteArray),(⟨#[110,101,119]⟩:ByteArray),(⟨#[117,112,100,97,116,101]⟩:ByteArray),(⟨#[99,97,110,99,101,108]⟩:ByteArray)]:List ByteArray))] ⟨rfl,trivial⟩)
theorem Fv {x0:Int} {r:ByteArray} (a:strconv_Itoa x0=some r) :
  FnM Tryz.prog 131 [(vI x0)] [] (vS r) [] :=
 itoa_ok Tryz.strconv_Itoa NK a
theorem Fs {x0:(List ByteArray)} {x1:ByteArray} {r:ByteArray} (a:strings_Join x0 x1=some r) :
  FnM Tryz.prog 132 [(vL eS x0),(vS x1)] [] (vS r) [] :=
 join_ok rfl Tryz.strings_Join_none Tryz.strings_Join a
theorem zS {c:(List Int)} {r:ByteArray} (e:oF c=some r) :
  FnM Tryz.prog 86 [(vL eI c)] [] (vS r) []:=by
 refine FnM.of_wH ⟨Tryz.prog,20,[],[]⟩ rfl Tryz.func86 rfl rfl (lb_ rfl) (by kernel_rfl) ?_
 unfold oF at e
 refine ai (aa (vS (⟨#[]⟩:ByteArray)) (ah (ai (aa .nil (ah (ak (ai (aa (vL eI c) (bJ zL rfl wz (aa (vI 0) (ah (jl (λB => ?_)))))))))))))
 obtain ⟨C,j,e⟩:=bind_some e
 obtain ⟨t,j⟩:=aS j
 refine gq (σ:=(List ByteArray)) (N:=Nm) (λp=>(λ(a:List ByteArray) (b:Nm)=>([(3,(gV b 1 a))]:SL_)) p.1 p.2) (λp=>(λ(a:List ByteArray) (b:Nm)=>([(b,gB 1 eS a)]:Hp)) p.1 p.2) (λ(g:Nat)=>(λp=>(λ(a:List ByteArray) (b:Nm)=>([(3,(gV b 1 a)),(6,(vL eI c)),(7,(vI (c.length:Int))),(8,(vI (g:Int)))]:SL_)) p.1 p.2)) (λk x s=>l7 k x s) C c (([]:List ByteArray),B) j rfl (aG rfl) ?_ ?_
 ·rintro ⟨g,l,a,b⟩ ⟨h,d⟩
  dsimp only at h d
  cases l with
  | nil =>
   obtain rfl:=ae h
   refine ai (aa (vB (decide ((g:Int)<(c.length:Int)))) (ah ?_))
   refine ak (ay rfl (drop_nil d) (aX ?_))
   exact aU (a,b) rfl rfl (aG rfl)
  | cons m l =>
   obtain ⟨G,f,h⟩:=bind_some h
   refine ai (aa (vB (decide ((g:Int)<(c.length:Int)))) (ah ?_))
   refine ak (aA rfl (aZ d) (av ?_))
   unfold l7 at f
   refine ak (aK (ai (dK nZ rfl rfl (bz d) rfl wz (bK sz3 ag3 rfl (vI m) rfl wz (aa (vI m) (ah (au (aa (gV b 1 a) (aa (vI m) ?_)))))))))
   obtain ⟨E,y,f⟩:=bind_some f
   refine aD (Fv y) rfl hb131 rfl rfl rfl rfl wz (dW (([E]:List ByteArray).map eS) qo Cc rfl rfl rfl rfl rfl wz ?_)
   obtain ⟨n,A,f⟩:=bind_some f
   refine lh 0 il ft (i:=0) Qd Qd sz9 z9 rfl (by decide) by9 (by decide) (λ_=>rfl) rfl rfl rfl A wz (λo=>aa (gV o 1 n) (ah (au (dx (bf d t) wz rfl (aa (vI ((g+1:Nat):Int)) (ah ?_))))))
   obtain rfl:=ae f
   exact aV (g+1,l,n,o) ⟨h,aP d⟩ (ls_ _) rfl (aG rfl)
 ·rintro ⟨a,b⟩ u H F v w
  subst u
  refine aN _ v w (ak (jP 0 rfl (fI 3 0 rfl rfl (au (aa (vL eS a) ?_)))))
  obtain ⟨q,z,e⟩:=bind_some e
  refine aD (Fs z) rfl hb132 rfl rfl rfl rfl wz (aa (vS q) (ah ?_))
  obtain rfl:=ae e
  exact aB (aM [(vS q)] ⟨rfl,trivial⟩)
theorem wT {c:(List Alert)} {r:ByteArray} (E:l5 c=some r) :
  FnM Tryz.prog 57 [(vL Alert.enc c)] [] (vS r) []:=by
 refine FnM.of_wH ⟨Tryz.prog,89,[],[]⟩ rfl Tryz.func57 rfl rfl (lb_ rfl) (by kernel_rfl) ?_
 unfold l5 at E
 refine ai (aa (vS (⟨#[]⟩:ByteArray)) (ah (ai (aa (vS (⟨#[]⟩:ByteArray)) (ah (ak (ai (aa (vL Alert.enc c) (bJ uS rfl wz (aa (vI 0) (ah ?_)))))))))))
 obtain ⟨Ú,I,E⟩:=bind_some E
 obtain ⟨Â,I⟩:=aS I
 refine bH (λ(g:ByteArray)=>[(3,(vS g))]) (λ(g:ByteArray)=>[]) (λ(e:Nat)=>(λ(g:ByteArray)=>[(3,(vS g)),(10,(vL Alert.enc c)),(11,(vI (c.length:Int))),(12,(vI (e:Int)))])) (λk x s=>lH k x s) Ú c (⟨#[]⟩:ByteArray) I rfl (aG rfl) ?_ ?_
 ·rintro ⟨e,L,g⟩ ⟨B,t⟩
  dsimp only at B t
  cases L with
  | nil =>
   obtain rfl:=ae B
   refine ai (aa (vB (decide ((e:Int)<(c.length:Int)))) (ah ?_))
   refine ak (ay rfl (drop_nil t) (aX ?_))
   exact aU (g) rfl rfl (aG rfl)
  | cons b L =>
   obtain ⟨R,a,B⟩:=bind_some B
   refine ai (aa (vB (decide ((e:Int)<(c.length:Int)))) (ah ?_))
   refine ak (aA rfl (aZ t) (av ?_))
   unfold lH at a
   refine ak (aK (ai (dK mH rfl rfl (bz t) rfl wz (bK fJ jZ rfl (.d (.agg (Alert.enc b))) rfl wz (bZ 0 (.inl rfl) z39 rfl wz (λj=>gp 0 il ft 0 fJ rfl rfl (Alert.v b) rfl wz (ah (ak (bv (aa (vS g) (aH kZ rfl 0 rfl wz (aC 2 0 (.inr (by kernel_rfl)) (λ_ _ ag=>trivial) sz9 ag9 rfl rfl (vS b.Id) rfl wz ?_))))))))))))
   obtain ⟨ã,Ç,a⟩:=bind_some a
   refine rT rfl rfl Ç wz ?_
   obtain ⟨ä,È,a⟩:=bind_some a
   refine rT rfl rfl È wz (aH Ez rfl 1 rfl wz (aC 6 0 (.inr (by kernel_rfl)) (λ_ _ ag=>⟨.inl ⟨rfl,rfl⟩,trivial⟩) sz9 ag9 rfl rfl (vS b.Sender) rfl wz ?_))
   obtain ⟨å,É,a⟩:=bind_some a
   refine rT rfl rfl É wz ?_
   obtain ⟨æ,Ê,a⟩:=bind_some a
   refine rT rfl rfl Ê wz ?_
   obtain ⟨à,Ã,a⟩:=bind_some a
   refine aD (Da Ã) rfl hb85 rfl rfl rfl rfl wz (aH xk rfl 2 rfl wz (aC 11 0 (.inr (by kernel_rfl)) (λ_ _ ag=>⟨.inl ⟨rfl,rfl⟩,⟨.inl ⟨rfl,rfl⟩,trivial⟩⟩) sz3 ag3 rfl rfl (vI b.Kind) rfl wz ?_))
   obtain ⟨Þ,Æ,a⟩:=bind_some a
   refine dK qo rfl rfl Æ rfl wz (bK sz9 ag9 rfl (vS Þ) rfl wz ?_)
   obtain ⟨ç,Ë,a⟩:=bind_some a
   refine rT rfl rfl Ë wz ?_
   obtain ⟨è,Ì,a⟩:=bind_some a
   refine rT rfl rfl Ì wz (aH lg rfl 4 rfl wz (aC 17 0 (.inr (by kernel_rfl)) (λ_ _ ag=>⟨.inl ⟨rfl,rfl⟩,⟨.inl ⟨rfl,rfl⟩,⟨.inl ⟨rfl,rfl⟩,trivial⟩⟩⟩) sz3 ag3 rfl rfl (vI b.At) rfl wz (aH DC rfl 5 rfl wz (aC 19 0 (.inr (by kernel_rfl)) (λ_ _ ag=>⟨.inl ⟨rfl,rfl⟩,⟨.inl ⟨rfl,rfl⟩,⟨.inl ⟨rfl,rfl⟩,⟨.inl ⟨rfl,rfl⟩,trivial⟩⟩⟩⟩) sz3 ag3 rfl rfl (vI b.Until) rfl wz (aH DU rfl 6 rfl wz (aC 21 0 (.inr (by kernel_rfl)) (λ_ _ ag=>⟨.inl ⟨rfl,rfl⟩,⟨.inl ⟨rfl,rfl⟩,⟨.inl ⟨rfl,rfl⟩,⟨.inl ⟨rfl,rfl⟩,⟨.inl ⟨rfl,rfl⟩,trivial⟩⟩⟩⟩⟩) sz3 ag3 rfl rfl (vI b.Weight) rfl wz (dW (([b.At,b.Until,b.Weight]:List Int).map eI) nZ BI rfl rfl rfl rfl rfl wz ?_)))))))
   obtain ⟨á,Ä,a⟩:=bind_some a
   refine aD (zS Ä) rfl hb86 rfl rfl rfl rfl wz ?_
   obtain ⟨é,Í,a⟩:=bind_some a
   refine rT rfl rfl Í wz ?_
   obtain ⟨ê,Î,a⟩:=bind_some a
   refine rT rfl rfl Î wz ?_
   obtain ⟨O,Ï,a⟩:=bind_some a
   refine rT rfl rfl Ï wz (aa (vS O) (ah (aN (H0:=([(j,some (.cells 9 (Alert.v b)))]:Hp)) ([(3,(vS O)),(5,(.ref j 0 0)),(10,(vL Alert.enc c)),(11,(vI (c.length:Int))),(12,(vI (e:Int)))]:SL_) (by kernel_rfl) (yN (by kernel_rfl)) (ak (ai (aH qx rfl 3 rfl wz (aC 0 0 il ft zV Cy rfl rfl (vL eS b.Refs) rfl wz (bJ wY rfl wz (aa (vI 0) (ah ?_))))))))))
   obtain ⟨Û,J,a⟩:=bind_some a
   obtain ⟨À,J⟩:=aS J
   refine bH (λ(l:ByteArray)=>[(3,(vS l)),(5,(.ref j 0 0)),(10,(vL Alert.enc c)),(11,(vI (c.length:Int))),(12,(vI (e:Int)))]) (λ(l:ByteArray)=>[(j,some (.cells 9 (Alert.v b)))]) (λ(w:Nat)=>(λ(l:ByteArray)=>[(3,(vS l)),(5,(.ref j 0 0)),(10,(vL Alert.enc c)),(11,(vI (c.length:Int))),(12,(vI (e:Int))),(44,(vL eS b.Refs)),(45,(vI (b.Refs.length:Int))),(46,(vI (w:Int)))])) (λk x s=>jV k x s) Û b.Refs O J rfl (aG rfl) ?_ ?_
   ·rintro ⟨w,M,l⟩ ⟨z,q⟩
    dsimp only at z q
    cases M with
    | nil =>
     obtain rfl:=ae z
     refine ai (aa (vB (decide ((w:Int)<(b.Refs.length:Int)))) (ah ?_))
     refine ak (ay rfl (drop_nil q) (aX ?_))
     exact aU (l) rfl rfl (aG rfl)
    | cons Q M =>
     obtain ⟨R,n,z⟩:=bind_some z
     refine ai (aa (vB (decide ((w:Int)<(b.Refs.length:Int)))) (ah ?_))
     refine ak (aA rfl (aZ q) (av ?_))
     unfold jV at n
     refine ak (aK (ai (dK qo rfl rfl (bz q) rfl wz (bK sz9 ag9 rfl (vS Q) rfl wz (aa (vS Q) (ah (au (aa (vS l) (aa (vS Q) ?_)))))))))
     obtain ⟨ë,Ð,n⟩:=bind_some n
     refine rT rfl rfl Ð wz ?_
     obtain ⟨ì,Ñ,n⟩:=bind_some n
     refine rT rfl rfl Ñ wz ?_
     obtain ⟨T,Ò,n⟩:=bind_some n
     refine rT rfl rfl Ò wz (aa (vS T) (ah (au (dx (bf q À) wz rfl (aa (vI ((w+1:Nat):Int)) (ah ?_))))))
     obtain rfl:=ae n
     exact aV (w+1,M,T) ⟨z,aP q⟩ (ls_ _) rfl (aG rfl)
   ·rintro l C P F o p
    subst C
    refine aN _ o p (ak (ai (aH ul rfl 7 rfl wz (aC 0 0 il ft CQ FE rfl rfl (vL Rect.enc b.Areas) rfl wz (bJ yP rfl wz (aa (vI 0) (ah ?_)))))))
    obtain ⟨Ü,K,a⟩:=bind_some a
    obtain ⟨Á,K⟩:=aS K
    refine bH (λ(m:ByteArray)=>[(3,(vS m)),(5,(.ref j 0 0)),(10,(vL Alert.enc c)),(11,(vI (c.length:Int))),(12,(vI (e:Int)))]) (λ(m:ByteArray)=>[(j,some (.cells 9 (Alert.v b)))]) (λ(y:Nat)=>(λ(m:ByteArray)=>[(3,(vS m)),(5,(.ref j 0 0)),(10,(vL Alert.enc c)),(11,(vI (c.length:Int))),(12,(vI (e:Int))),(57,(vL Rect.enc b.Areas)),(58,(vI (b.Areas.length:Int))),(59,(vI (y:Int)))])) (λk x s=>jW k x s) Ü b.Areas l K rfl (aG rfl) ?_ ?_
    ·rintro ⟨y,N,m⟩ ⟨A,u⟩
     dsimp only at A u
     cases N with
     | nil =>
      obtain rfl:=ae A
      refine ai (aa (vB (decide ((y:Int)<(b.Areas.length:Int)))) (ah ?_))
      refine ak (ay rfl (drop_nil u) (aX ?_))
      exact aU (m) rfl rfl (aG rfl)
     | cons i N =>
      obtain ⟨R,h,A⟩:=bind_some A
      refine ai (aa (vB (decide ((y:Int)<(b.Areas.length:Int)))) (ah ?_))
      refine ak (aA rfl (aZ u) (av ?_))
      unfold jW at h
      refine ak (aK (ai (dK BC rfl rfl (bz u) rfl wz (bK rV Ed rfl (.d (.agg (Rect.enc i))) rfl wz (bZ 0 (.inl rfl) z42 rfl wz (λß=>gp 0 il ft 1 rV rfl rfl (Rect.v i) rfl wz (ah (au (aa (vS m) (aH BJ rfl 0 rfl wz (aC 0 1 il ft sz3 ag3 rfl rfl (vI i.X) rfl wz (aH yT rfl 1 rfl wz (aC 0 1 il ft sz3 ag3 rfl rfl (vI i.Y) rfl wz (aH F6 rfl 2 rfl wz (aC 0 1 il ft sz3 ag3 rfl rfl (vI i.W) rfl wz (aH DK rfl 3 rfl wz (aC 0 1 il ft sz3 ag3 rfl rfl (vI i.H) rfl wz (dW (([i.X,i.Y,i.W,i.H]:List Int).map eI) nZ BI rfl rfl rfl rfl rfl wz ?_))))))))))))))))))
      obtain ⟨â,Å,h⟩:=bind_some h
      refine aD (zS Å) rfl hb86 rfl rfl rfl rfl wz ?_
      obtain ⟨í,Ó,h⟩:=bind_some h
      refine rT rfl rfl Ó wz ?_
      obtain ⟨î,Ô,h⟩:=bind_some h
      refine rT rfl rfl Ô wz ?_
      obtain ⟨U,Õ,h⟩:=bind_some h
      refine rT rfl rfl Õ wz (aa (vS U) (ah (au (dx (bf u Á) wz rfl (aa (vI ((y+1:Nat):Int)) (ah ?_))))))
      obtain rfl:=ae h
      exact aV (y+1,N,U) ⟨A,aP u⟩ (ls_ _) rfl (aG rfl)
    ·rintro m C P F o p
     subst C
     refine aN _ o p (ai (aH Am rfl 8 rfl wz (aC 0 0 il ft sz9 ag9 rfl rfl (vS b.Text) rfl wz (aa (vB (sNe b.Text (⟨#[]⟩:ByteArray))) (ah ?_)))))
     obtain ⟨Z,f,a⟩:=bind_some a
     refine aR [(3,(vS Z)),(10,(vL Alert.enc c)),(11,(vI (c.length:Int))),(12,(vI (e:Int)))] [(j,some (.cells 9 (Alert.v b)))] ?_ ?_
     ·rcases aj f with⟨G,f⟩|⟨G,f⟩
      ·refine aA rfl G (au (aa (vS m) (aH Am rfl 8 rfl wz (aC 0 0 il ft sz9 ag9 rfl rfl (vS b.Text) rfl wz ?_))))
       obtain ⟨ï,Ö,f⟩:=bind_some f
       refine rT rfl rfl Ö wz ?_
       obtain ⟨ð,Ø,f⟩:=bind_some f
       refine rT rfl rfl Ø wz ?_
       obtain ⟨Ý,Ù,f⟩:=bind_some f
       refine rT rfl rfl Ù wz (aa (vS Ý) (ah ?_))
       obtain rfl:=ae f
       exact cu
      ·refine ay rfl G (av ?_)
       obtain rfl:=ae f
       exact cu
     ·rintro ⟨⟩ _ P F o p
      refine aN _ o p (au (dx (bf t Â) wz rfl (aa (vI ((e+1:Nat):Int)) (ah ?_))))
      obtain rfl:=ae a
      exact aV (e+1,L,Z) ⟨B,aP t⟩ (ls_ _) rfl (aG rfl)
 ·rintro g C P F o p
  subst C
  refine aN _ o p (ai (aa (vS g) (aa (vS g) (ah ?_))))
  obtain rfl:=ae E
  exact aB (aM [(vS g)] ⟨rfl,trivial⟩)
theorem Dy {b:Alert} {c:Alert} {r:Bool} (a:pX b c=some r) :
  FnM Tryz.prog 18 [(.d (.agg (Alert.enc b))),(.d (.agg (Alert.enc c)))] [] (vB r) []:=by
 refine FnM.of_wH ⟨Tryz.prog,12,[],[]⟩ rfl Tryz.func18 rfl rfl (lb_ rfl) (by kernel_rfl) ?_
 unfold pX at a
 refine ai (eT 0 (.inl rfl) (Alert.v b) rfl rfl wz (λi=>eT 0 (.inl rfl) (Alert.v c) rfl rfl wz (λj=>aa (vB false) (ah (ak (bv (aC 0 0 (.inr (by kernel_rfl)) (λ_ _ ag=>trivial) fJ jZ rfl rfl (.d (.agg (Alert.enc b))) rfl wz (dW (([b]:List Alert).map Alert.enc) mH Qv rfl rfl rfl rfl rfl wz ?_))))))))
 obtain ⟨e,g,a⟩:=bind_some a
 refine aD (wT g) rfl hb57 rfl rfl rfl rfl wz (aC 3 1 (.inr (by kernel_rfl)) (λ_ _ ag=>⟨.inl ⟨rfl,rfl⟩,trivial⟩) fJ jZ rfl rfl (.d (.agg (Alert.enc c))) rfl wz (dW (([c]:List Alert).map Alert.enc) mH Qv rfl rfl rfl rfl rfl wz ?_))
 obtain ⟨f,h,a⟩:=bind_some a
 refine aD (wT h) rfl hb57 rfl rfl rfl rfl wz (aa (vB (sEq e f)) (aa (vB (sEq e f)) (ah ?_)))
 obtain rfl:=ae a
 exact aB (aM [(vB (sEq e f))] ⟨rfl,trivial⟩)
theorem jb {s1_1:(List Alert)} {s2_2:(List Alert)} {r:Bool} (b:bL s1_1 s2_2=some r) :
  FnM Tryz.prog 17 [(vL Alert.enc s1_1),(vL Alert.enc s2_2),(.fn 18 [])] [] (vB r) []:=by
 refine FnM.of_wH ⟨Tryz.prog,32,[],[]⟩ rfl Tryz.func17 rfl rfl (lb_ rfl) (by kernel_rfl) ?_
 unfold bL at b
 refine ai (aa (vB false) (ah (ak (ai (aa (vL Alert.enc s1_1) (bJ uS rfl wz (aa (vL Alert.enc s2_2) (bJ uS rfl wz (aa (vB ((s1_1.length:Int) != (s2_2.length:Int))) (ah ?_))))))))))
 rcases aj b with⟨i,b⟩|⟨i,b⟩
 ·refine aA rfl i (ai (aa (vB false) (ah ?_)))
  obtain rfl:=ae b
  exact aB (aM [(vB false)] ⟨rfl,trivial⟩)
 ·refine ay rfl i (av (ak (ai (aa (vL Alert.enc s1_1) (bJ uS rfl wz (aa (vI 0) (ah ?_)))))))
  obtain ⟨y,j,b⟩:=bind_some b
  obtain ⟨o,j⟩:=aS j
  refine bH (λ(g:Unit)=>[]) (λ(g:Unit)=>[]) (λ(c:Nat)=>(λ(g:Unit)=>[(1,(vL Alert.enc s2_2)),(2,(.fn 18 [])),(15,(vL Alert.enc s1_1)),(16,(vI (s1_1.length:Int))),(17,(vI (c:Int)))])) (λk x s=>bg s2_2 k x s) y s1_1 () j rfl (aG rfl) ?_ ?_
  ·rintro ⟨c,l,g⟩ ⟨f,e⟩
   dsimp only at f e
   cases l with
   | nil =>
    obtain rfl:=ae f
    refine ai (aa (vB (decide ((c:Int)<(s1_1.length:Int)))) (ah ?_))
    refine ak (ay rfl (drop_nil e) (aX ?_))
    exact aU (g) rfl rfl (aG rfl)
   | cons m l =>
    obtain ⟨B,a,f⟩:=bind_some f
    refine ai (aa (vB (decide ((c:Int)<(s1_1.length:Int)))) (ah ?_))
    refine ak (aA rfl (aZ e) (av ?_))
    unfold bg at a
    refine ak (aK (ai (aa (vI (c:Int)) (dK mH rfl rfl (bz e) rfl wz (bK fJ jZ rfl (.d (.agg (Alert.enc m))) rfl wz (bZ 0 (.inl rfl) z39 rfl wz (λC=>aa (vI (c:Int)) (gp 0 il ft 0 fJ rfl rfl (Alert.v m) rfl wz (ah (ai (aa (vL Alert.enc s2_2) (aa (vI (c:Int)) ?_))))))))))))
    obtain ⟨n,w,a⟩:=bind_some a
    refine dK mH rfl rfl w rfl wz (bK fJ jZ rfl (.d (.agg (Alert.enc n))) rfl wz (bZ 0 (.inl rfl) z39 rfl wz (λE=>gp 0 il ft 1 fJ rfl rfl (Alert.v n) rfl wz (ah (ai (aa (.fn 18 []) (aC 0 0 il ft fJ jZ rfl rfl (.d (.agg (Alert.enc m))) rfl wz (aC 0 1 il ft fJ jZ rfl rfl (.d (.agg (Alert.enc n))) rfl wz ?_))))))))
    obtain ⟨z,u,a⟩:=bind_some a
    refine aD (Dy u) rfl hb18 rfl rfl rfl rfl wz (aa (vB (!z)) (ah ?_))
    rcases aj a with⟨h,a⟩|⟨h,a⟩
    ·refine aA rfl h (ai (aa (vB false) (ah ?_)))
     obtain rfl:=ae a
     obtain rfl:=ae f
     obtain rfl:=ae b
     exact aB (aM [(vB false)] ⟨rfl,trivial⟩)
    ·refine ay rfl h (av (au (dx (bf e o) wz rfl (aa (vI ((c+1:Nat):Int)) (ah ?_)))))
     obtain rfl:=ae a
     exact aV (c+1,l,()) ⟨f,aP e⟩ (ls_ _) rfl (aG rfl)
  ·rintro g p F A q t
   subst p
   refine aN _ q t (ai (aa (vB true) (ah ?_)))
   obtain rfl:=ae b
   exact aB (aM [(vB true)] ⟨rfl,trivial⟩)
theorem qP {s1_1:(List Post)} {s2_2:(List Post)} {r:Bool} (b:gY s1_1 s2_2=some r) :
  FnM Tryz.prog 19 [(vL Post.enc s1_1),(vL Post.enc s2_2)] [] (vB r) []:=by
 refine FnM.of_wH ⟨Tryz.prog,26,[],[]⟩ rfl Tryz.func19 rfl rfl (lb_ rfl) (by kernel_rfl) ?_
 unfold gY at b
 refine ai (aa (vB false) (ah (ak (ai (aa (vL Post.enc s1_1) (bJ Nw rfl wz (aa (vL Post.enc s2_2) (bJ Nw rfl wz (aa (vB ((s1_1.length:Int) != (s2_2.length:Int))) (ah ?_))))))))))
 rcases aj b with⟨l,b⟩|⟨l,b⟩
 ·refine aA rfl l (ai (aa (vB false) (ah ?_)))
  obtain rfl:=ae b
  exact aB (aM [(vB false)] ⟨rfl,trivial⟩)
 ·refine ay rfl l (av (ak (ai (aa (vL Post.enc s1_1) (bJ Nw rfl wz (aa (vI 0) (ah ?_)))))))
  obtain ⟨v,m,b⟩:=bind_some b
  obtain ⟨o,m⟩:=aS m
  refine bH (λ(g:Unit)=>[]) (λ(g:Unit)=>[]) (λ(a:Nat)=>(λ(g:Unit)=>[(0,(vL Post.enc s1_1)),(1,(vL Post.enc s2_2)),(12,(vI (s1_1.length:Int))),(13,(vI (a:Int)))])) (λk x s=>dQ s2_2 k x s) v s1_1 () m rfl (aG rfl) ?_ ?_
  ·rintro ⟨a,n,g⟩ ⟨f,e⟩
   dsimp only at f e
   cases n with
   | nil =>
    obtain rfl:=ae f
    refine ai (aa (vB (decide ((a:Int)<(s1_1.length:Int)))) (ah ?_))
    refine ak (ay rfl (drop_nil e) (aX ?_))
    exact aU (g) rfl rfl (aG rfl)
   | cons h n =>
    obtain ⟨y,c,f⟩:=bind_some f
    refine ai (aa (vB (decide ((a:Int)<(s1_1.length:Int)))) (ah ?_))
    refine ak (aA rfl (aZ e) (av ?_))
    unfold dQ at c
    refine ak (aK (ai (aa (vI (a:Int)) (aa (vI (a:Int)) (ah (ak (bv (aa (vL Post.enc s1_1) (aa (vI (a:Int)) (dK MU rfl rfl (bz e) rfl wz (bK BZ Ii rfl (.d (.agg (Post.enc h))) rfl wz (aa (vL Post.enc s2_2) (aa (vI (a:Int)) ?_)))))))))))))
    obtain ⟨i,u,c⟩:=bind_some c
    refine dK MU rfl rfl u rfl wz (bK BZ Ii rfl (.d (.agg (Post.enc i))) rfl wz (aJ (vB (!((h.Player.toList==i.Player.toList)&&((h.X==i.X)&&((h.Y==i.Y)&&true))))) wz (by kernel_rfl) (ah ?_)))
    rcases aj c with⟨j,c⟩|⟨j,c⟩
    ·refine aA rfl j (ai (aa (vB false) (ah ?_)))
     obtain rfl:=ae c
     obtain rfl:=ae f
     obtain rfl:=ae b
     exact aB (aM [(vB false)] ⟨rfl,trivial⟩)
    ·refine ay rfl j (av (au (dx (bf e o) wz rfl (aa (vI ((a+1:Nat):Int)) (ah ?_)))))
     obtain rfl:=ae c
     exact aV (a+1,n,()) ⟨f,aP e⟩ (ls_ _) rfl (aG rfl)
  ·rintro g p z w q t
   subst p
   refine aN _ q t (ai (aa (vB true) (ah ?_)))
   obtain rfl:=ae b
   exact aB (aM [(vB true)] ⟨rfl,trivial⟩)
theorem nX {s1_1:(List Receipt)} {s2_2:(List Receipt)} {r:Bool} (b:eH s1_1 s2_2=some r) :
  FnM Tryz.prog 20 [(vL Receipt.enc s1_1),(vL Receipt.enc s2_2)] [] (vB r) []:=by
 refine FnM.of_wH ⟨Tryz.prog,26,[],[]⟩ rfl Tryz.func20 rfl rfl (lb_ rfl) (by kernel_rfl) ?_
 unfold eH at b
 refine ai (aa (vB false) (ah (ak (ai (aa (vL Receipt.enc s1_1) (bJ xG rfl wz (aa (vL Receipt.enc s2_2) (bJ xG rfl wz (aa (vB ((s1_1.length:Int) != (s2_2.length:Int))) (ah ?_))))))))))
 rcases aj b with⟨l,b⟩|⟨l,b⟩
 ·refine aA rfl l (ai (aa (vB false) (ah ?_)))
  obtain rfl:=ae b
  exact aB (aM [(vB false)] ⟨rfl,trivial⟩)
 ·refine ay rfl l (av (ak (ai (aa (vL Receipt.enc s1_1) (bJ xG rfl wz (aa (vI 0) (ah ?_)))))))
  obtain ⟨v,m,b⟩:=bind_some b
  obtain ⟨o,m⟩:=aS m
  refine bH (λ(g:Unit)=>[]) (λ(g:Unit)=>[]) (λ(a:Nat)=>(λ(g:Unit)=>[(0,(vL Receipt.enc s1_1)),(1,(vL Receipt.enc s2_2)),(12,(vI (s1_1.length:Int))),(13,(vI (a:Int)))])) (λk x s=>cO s2_2 k x s) v s1_1 () m rfl (aG rfl) ?_ ?_
  ·rintro ⟨a,n,g⟩ ⟨f,e⟩
   dsimp only at f e
   cases n with
   | nil =>
    obtain rfl:=ae f
    refine ai (aa (vB (decide ((a:Int)<(s1_1.length:Int)))) (ah ?_))
    refine ak (ay rfl (drop_nil e) (aX ?_))
    exact aU (g) rfl rfl (aG rfl)
   | cons h n =>
    obtain ⟨y,c,f⟩:=bind_some f
    refine ai (aa (vB (decide ((a:Int)<(s1_1.length:Int)))) (ah ?_))
    refine ak (aA rfl (aZ e) (av ?_))
    unfold cO at c
    refine ak (aK (ai (aa (vI (a:Int)) (aa (vI (a:Int)) (ah (ak (bv (aa (vL Receipt.enc s1_1) (aa (vI (a:Int)) (dK Dw rfl rfl (bz e) rfl wz (bK rP AY rfl (.d (.agg (Receipt.enc h))) rfl wz (aa (vL Receipt.enc s2_2) (aa (vI (a:Int)) ?_)))))))))))))
    obtain ⟨i,u,c⟩:=bind_some c
    refine dK Dw rfl rfl u rfl wz (bK rP AY rfl (.d (.agg (Receipt.enc i))) rfl wz (aJ (vB (!((h.Player.toList==i.Player.toList)&&((h.Alert.toList==i.Alert.toList)&&((h.At==i.At)&&((h.Seen==i.Seen)&&true)))))) wz (by kernel_rfl) (ah ?_)))
    rcases aj c with⟨j,c⟩|⟨j,c⟩
    ·refine aA rfl j (ai (aa (vB false) (ah ?_)))
     obtain rfl:=ae c
     obtain rfl:=ae f
     obtain rfl:=ae b
     exact aB (aM [(vB false)] ⟨rfl,trivial⟩)
    ·refine ay rfl j (av (au (dx (bf e o) wz rfl (aa (vI ((a+1:Nat):Int)) (ah ?_)))))
     obtain rfl:=ae c
     exact aV (a+1,n,()) ⟨f,aP e⟩ (ls_ _) rfl (aG rfl)
  ·rintro g p z w q t
   subst p
   refine aN _ q t (ai (aa (vB true) (ah ?_)))
   obtain rfl:=ae b
   exact aB (aM [(vB true)] ⟨rfl,trivial⟩)
theorem zB {a:(List Rect)} {r:Int} (b:nR a=some r) :
  FnM Tryz.prog 87 [(vL Rect.enc a)] [] (vI r) []:=by
 refine FnM.of_wH ⟨Tryz.prog,21,[],[]⟩ rfl Tryz.func87 rfl rfl (lb_ rfl) (by kernel_rfl) ?_
 unfold nR at b
 refine ai (aa (vI 0) (ah (ak (ai (aa (vL Rect.enc a) (bJ yP rfl wz (aa (vB (decide ((a.length:Int)>2000))) (ah ?_))))))))
 rcases aj b with⟨l,b⟩|⟨l,b⟩
 ·refine aA rfl l (ai (aa (vI 2) (ah ?_)))
  obtain rfl:=ae b
  exact aB (aM [(vI 2)] ⟨rfl,trivial⟩)
 ·refine ay rfl l (av (ak (ai (aa (vL Rect.enc a) (bJ yP rfl wz (aa (vI 0) (ah ?_)))))))
  obtain ⟨y,m,b⟩:=bind_some b
  obtain ⟨p,m⟩:=aS m
  refine bH (λ(i:Unit)=>[]) (λ(i:Unit)=>[]) (λ(g:Nat)=>(λ(i:Unit)=>[(9,(vL Rect.enc a)),(10,(vI (a.length:Int))),(11,(vI (g:Int)))])) (λk x s=>oH k x s) y a () m rfl (aG rfl) ?_ ?_
  ·rintro ⟨g,n,i⟩ ⟨f,e⟩
   dsimp only at f e
   cases n with
   | nil =>
    obtain rfl:=ae f
    refine ai (aa (vB (decide ((g:Int)<(a.length:Int)))) (ah ?_))
    refine ak (ay rfl (drop_nil e) (aX ?_))
    exact aU (i) rfl rfl (aG rfl)
   | cons o n =>
    obtain ⟨A,c,f⟩:=bind_some f
    refine ai (aa (vB (decide ((g:Int)<(a.length:Int)))) (ah ?_))
    refine ak (aA rfl (aZ e) (av ?_))
    unfold oH at c
    refine ak (aK (ai (dK BC rfl rfl (bz e) rfl wz (bK rV Ed rfl (.d (.agg (Rect.enc o))) rfl wz (bZ 0 (.inl rfl) z42 rfl wz (λB=>gp 0 il ft 0 rV rfl rfl (Rect.v o) rfl wz (ah (ai (aC 0 0 il ft rV Ed rfl rfl (.d (.agg (Rect.enc o))) rfl wz ?_)))))))))
    obtain ⟨h,w,c⟩:=bind_some c
    refine aD (uK w) rfl hb108 rfl rfl rfl rfl wz (aa (vI h) (ah (ai (aa (vI h) (aa (vB (h != 0)) (ah ?_))))))
    rcases aj c with⟨j,c⟩|⟨j,c⟩
    ·refine aA rfl j (ai (aa (vI h) (aa (vI h) (ah ?_))))
     obtain rfl:=ae c
     obtain rfl:=ae f
     obtain rfl:=ae b
     exact aB (aM [(vI h)] ⟨rfl,trivial⟩)
    ·refine ay rfl j (av (au (dx (bf e p) wz rfl (aa (vI ((g+1:Nat):Int)) (ah ?_)))))
     obtain rfl:=ae c
     exact aV (g+1,n,()) ⟨f,aP e⟩ (ls_ _) rfl (aG rfl)
  ·rintro i q C z t u
   subst q
   refine aN _ t u (ai (aa (vI 0) (ah ?_)))
   obtain rfl:=ae b
   exact aB (aM [(vI 0)] ⟨rfl,trivial⟩)
theorem qy {b:Int} {r:Bool} (a:jk b=some r) :
  FnM Tryz.prog 166 [.nil,(vI b)] [] (kV r (ax 0) 4 ([]:List Rect)) (kO r 4):=by
 refine FnM.of_wH ⟨Tryz.prog,27,[],[]⟩ rfl Tryz.func166 rfl rfl (lb_ rfl) (by kernel_rfl) ?_
 unfold jk at a
 refine ai (aa .nil (ah (ak (ai (aa (vI b) (aa (vB (decide (b<0))) (ah ?_)))))))
 rcases aj a with⟨c,a⟩|⟨c,a⟩
 ·refine aA rfl c (au ?_)
  cases a
 ·refine ay rfl c (av (ak (ai (aa (vI b) (aa .nil (Ey Ij rfl wz (aa .nil (EA yP rfl wz (aa (vI (w64 (0-0))) (aa (vI (w64 (b-(w64 (0-0))))) (aa (vI (w64 (b-(w64 (0-0))))) (ah (ai (aa (vI (w64 (b-(w64 (0-0))))) (aa (vB (decide ((w64 (b-(w64 (0-0))))>0))) (ah ?_))))))))))))))))
  rcases aj a with⟨d,a⟩|⟨d,a⟩
  ·refine aA rfl d (au (aa .nil (aa .nil (Ey Ij rfl wz (aJ .nil wz (by kernel_rfl) (aa (vI (w64 (b-(w64 (0-0))))) ?_))))))
   obtain ⟨_,f,a⟩:=bind_some a
   refine N7 (enc:=Rect.enc) 0 (.inl rfl) Ij (by kernel_rfl) rV z42 rfl (by decide) Rk rfl rfl f wz (λe=>aa .nil (EA yP rfl wz (Nz (m:=0) yP rV rfl rfl rfl (Nat.zero_le _) wz (aa (.vs e 4 0 0) (ah (ai (aa (.vs e 4 0 0) (aa (.vs e 4 0 0) (ah ?_)))))))))
   obtain rfl:=ae a
   exact aB (finK (.inr rfl) 0 rfl rfl)
  ·refine ay rfl d (av (ai (aa .nil (aa .nil (ah ?_)))))
   obtain rfl:=ae a
   exact aB (RS (.inr rfl) rfl)
theorem qE {a:(List (List Rect))} {r:(List Rect)} (g:gD a=some r) :
  FnM Tryz.prog 133 [(vL (eL Rect.enc) a)] [] (vL Rect.enc r) []:=by
 refine FnM.of_wH ⟨Tryz.prog,36,[],[]⟩ rfl Tryz.func133 rfl rfl (lb_ rfl) (by kernel_rfl) ?_
 unfold gD at g
 refine ai (aa .nil (ah (ai (aa (vI 0) (ah (ak (ai (aa (vL (eL Rect.enc) a) (bJ un232 rfl wz (aa (vI 0) (ah ?_)))))))))))
 obtain ⟨R,z,g⟩:=bind_some g
 obtain ⟨O,z⟩:=aS z
 refine bH (λ(b:Int)=>[(0,(vL (eL Rect.enc) a)),(3,(vI b))]) (λ(b:Int)=>[]) (λ(h:Nat)=>(λ(b:Int)=>[(0,(vL (eL Rect.enc) a)),(3,(vI b)),(9,(vL (eL Rect.enc) a)),(10,(vI (a.length:Int))),(11,(vI (h:Int)))])) (λk x s=>iW k x s) R a 0 z rfl (aG rfl) ?_ ?_
 ·rintro ⟨h,E,b⟩ ⟨o,l⟩
  dsimp only at o l
  cases E with
  | nil =>
   obtain rfl:=ae o
   refine ai (aa (vB (decide ((h:Int)<(a.length:Int)))) (ah ?_))
   refine ak (ay rfl (drop_nil l) (aX ?_))
   exact aU (b) rfl rfl (aG rfl)
  | cons e E =>
   obtain ⟨L,w,o⟩:=bind_some o
   refine ai (aa (vB (decide ((h:Int)<(a.length:Int)))) (ah ?_))
   refine ak (aA rfl (aZ l) (av ?_))
   unfold iW at w
   refine ak (aK (ai (dK Q8 rfl rfl (bz l) rfl wz (bK CQ FE rfl (vL Rect.enc e) rfl wz (aa (vL Rect.enc e) (ah (ai (aa (vI b) (aa (vL Rect.enc e) (bJ yP rfl wz (aa (vI (w64 (b+(e.length:Int)))) (aa (vI (w64 (b+(e.length:Int)))) (ah (ai (aa (vI (w64 (b+(e.length:Int)))) (aa (vB (decide ((w64 (b+(e.length:Int)))<0))) (ah ?_)))))))))))))))))
   obtain ⟨U,q,w⟩:=bind_some w
   refine aR [(0,(vL (eL Rect.enc) a)),(3,(vI (w64 (b+(e.length:Int))))),(9,(vL (eL Rect.enc) a)),(10,(vI (a.length:Int))),(11,(vI (h:Int)))] [] ?_ ?_
   ·rcases aj q with⟨y,q⟩|⟨y,q⟩
    ·refine aA rfl y (au ?_)
     cases q
    ·refine ay rfl y (av ?_)
     obtain rfl:=ae q
     exact cu
   ·rintro ⟨⟩ _ K G t u
    refine aN _ t u (au (dx (bf l O) wz rfl (aa (vI ((h+1:Nat):Int)) (ah ?_))))
    obtain rfl:=ae w
    exact aV (h+1,E,(w64 (b+(e.length:Int)))) ⟨o,aP l⟩ (ls_ _) rfl (aG rfl)
 ·rintro b B K G t u
  subst B
  refine aN _ t u (ai (aa (vI b) ?_))
  obtain ⟨f,P,g⟩:=bind_some g
  refine Kg (enc:=Rect.enc) (qy P) rfl hb166 (by kernel_rfl) rfl (by kernel_rfl) wz (λI=>aa (kV f I 4 ([]:List Rect)) (ah (ak (ai (aa (vL (eL Rect.enc) a) (bJ un232 rfl wz (aa (vI 0) (ah ?_))))))))
  obtain ⟨T,A,g⟩:=bind_some g
  obtain ⟨M,A⟩:=aS A
  refine gq (σ:=(List Rect)) (N:=Nm) (λp=>(λ(c:List Rect) (d:Nm)=>([(6,(kV f d 4 c))]:SL_)) p.1 p.2) (λp=>(λ(c:List Rect) (d:Nm)=>([(d,kB f 4 Rect.enc c)]:Hp)) p.1 p.2) (λ(m:Nat)=>(λp=>(λ(c:List Rect) (d:Nm)=>([(6,(kV f d 4 c)),(25,(vL (eL Rect.enc) a)),(26,(vI (a.length:Int))),(27,(vI (m:Int)))]:SL_)) p.1 p.2)) (λk x s=>iU k x s) T a (([]:List Rect),I) A rfl (aG rfl) ?_ ?_
  ·rintro ⟨m,C,c,d⟩ ⟨n,j⟩
   dsimp only at n j
   cases C with
   | nil =>
    obtain rfl:=ae n
    refine ai (aa (vB (decide ((m:Int)<(a.length:Int)))) (ah ?_))
    refine ak (ay rfl (drop_nil j) (aX ?_))
    exact aU (c,d) rfl rfl (aG rfl)
   | cons F C =>
    obtain ⟨L,v,n⟩:=bind_some n
    refine ai (aa (vB (decide ((m:Int)<(a.length:Int)))) (ah ?_))
    refine ak (aA rfl (aZ j) (av ?_))
    unfold iU at v
    refine ak (aK (ai (dK Q8 rfl rfl (bz j) rfl wz (bK CQ FE rfl (vL Rect.enc F) rfl wz (aa (vL Rect.enc F) (ah (au (aa (kV f d 4 c) (aa (vL Rect.enc F) ?_)))))))))
    obtain ⟨H,Q,v⟩:=bind_some v
    refine Nr 0 il ft (i:=0) Ij Ij rV z42 rfl (by decide) Rk (by decide) (λ_=>rfl) rfl rfl rfl Q wz (λJ=>aa (kV f J 4 H) (ah (au (dx (bf j M) wz rfl (aa (vI ((m+1:Nat):Int)) (ah ?_))))))
    obtain rfl:=ae v
    exact aV (m+1,C,H,J) ⟨n,aP j⟩ (ls_ _) rfl (aG rfl)
  ·rintro ⟨c,d⟩ B K G t u
   subst B
   refine aN _ t u (ai (aa (kV f d 4 c) (aa (kV f d 4 c) (ah (MN 0 rfl (DV 2 0 rfl rfl (DV 6 0 rfl rfl (DV 35 0 rfl rfl ?_))))))))
   obtain rfl:=ae g
   exact aB (aM [(vL Rect.enc c)] ⟨rfl,trivial⟩)
theorem wE {x r:(List Int)} (a:kv x=some r) :
  FnM Tryz.prog 134 [(dV (ax 0) 1 x)] (([]:List Box)++gI 1 eI x) (.tup []) (([]:List Box).map some++gT x (gB 1 eI r)) :=
 Rt Tryz.slices_Sort_int Tryz.slices_Sort_int_none a
theorem uA {b:(List Int)} {r:(List Int)} (g:ig b=some r) :
  FnM Tryz.prog 135 [(dV (ax 0) 1 b)] (([]:List Box)++gI 1 eI b) (vL eI r) (([]:List Box).map some++gT b none):=by
 refine FnM.of_wHv ⟨Tryz.prog,61,[],[]⟩ rfl Tryz.func135 rfl rfl (lb_ rfl) (by kernel_rfl) ?_
 unfold ig at g
 refine ai (aa .nil (ah (ak (ai (aa (dV (ax 0) 1 b) (wZ zL rfl wz (aa (vB (decide ((b.length:Int)<2))) (ah ?_))))))))
 rcases aj g with⟨w,g⟩|⟨w,g⟩
 ·refine aA rfl w (ai (aa (dV (ax 0) 1 b) (aa (dV (ax 0) 1 b) (ah (jP 0 rfl (Cn 0 0 rfl rfl (Cn 2 0 rfl rfl (Cn 6 0 rfl rfl (Cn 9 0 rfl rfl (JY (i:=0) rfl ?_))))))))))
  obtain rfl:=ae g
  exact aB (uY (bs:=([]:List Box)) (os:=([]:List Box)) (xs:=b) (o:=none) (.inr rfl) [(vL eI b)] ⟨rfl,trivial⟩ rfl rfl rfl rfl rfl (by kernel_rfl) wV rfl)
 ·refine ay rfl w (av (ak (ai (aa (vI 1) (ah ?_)))))
  obtain ⟨Ã,A,g⟩:=bind_some g
  obtain ⟨Â,A⟩:=dF A
  refine eU (λ(c:Int)=>[(0,(dV (ax 0) 1 b))]) (λ(c:Int)=>[((ax 0),gB 1 eI b)]) (λ(u:Nat)=>(λ(c:Int)=>[(0,(dV (ax 0) 1 b)),(3,(vI c))])) (λs=>fK b s) Ã Â 1 A rfl (aG rfl) ?_ ?_
  ·rintro ⟨u,c⟩ j
   dsimp only at j
   cases u with
   | zero=>cases j
   | succ u =>
    obtain ⟨R,d,j⟩:=bind_some j
    unfold fK at d
    refine ak (ai (aa (vI c) (aa (dV (ax 0) 1 b) (wZ zL rfl wz (aa (vB (decide (c<(b.length:Int)))) (ah ?_))))))
    rcases aj d with⟨v,d⟩|⟨v,d⟩
    ·refine aA rfl v (av (ak (aK (ak (bv (aa (dV (ax 0) 1 b) (aa (vI c) ?_)))))))
     obtain ⟨_,K,d⟩:=bind_some d
     refine iZ nZ rfl rfl (gN K) (dP K) wz ?_
     obtain ⟨G,U,d⟩:=bind_some d
     refine jm 3 0 (.inr (by kernel_rfl)) (λ_ _ ag=>trivial) sz3 ag3 rfl rfl U (vI G) rfl wz (aa (dV (ax 0) 1 b) (aa (vI c) (aa (vI (w64 (c-1))) ?_)))
     obtain ⟨_,L,d⟩:=bind_some d
     refine iZ nZ rfl rfl (gN L) (dP L) wz ?_
     obtain ⟨H,W,d⟩:=bind_some d
     refine jm 8 0 (.inr (by kernel_rfl)) (λ_ _ ag=>⟨.inl ⟨rfl,rfl⟩,trivial⟩) sz3 ag3 rfl rfl W (vI H) rfl wz (aa (vB (G==H)) (ah ?_))
     rcases aj d with⟨x,d⟩|⟨x,d⟩
     ·refine aA rfl x (ai (aa (dV (ax 0) 1 b) (aa (vI c) ?_)))
      obtain ⟨_,h,d⟩:=bind_some d
      replace h:=Q3 h
      refine bT (v':=(vV (ax 0) 1 b)) 0 rfl (sV h) (bT (v':=(vV (ax 0) 1 b)) 11 rfl (sV h) (bT (v':=(vV (ax 0) 1 b)) 16 rfl (sV h) (bT (v':=(vV (ax 0) 1 b)) 20 rfl (sV h) (bT (v':=(vV (ax 0) 1 b)) 26 rfl (sV h) (Lh 0 rfl (Pz h) ?_)))))
      obtain ⟨_,T,d⟩:=bind_some d
      refine Cz zL sz3 rfl rfl T wz (aa (.vs (ax 0) 1 ((c).toNat) (((b.length:Int)).toNat-(c).toNat)) (ah (ak (ai (aa (vI 1) (ah ?_))))))
      obtain ⟨Ä,B,d⟩:=bind_some d
      obtain ⟨Á,B⟩:=dF B
      refine eU (λ(a:(List Int)×Int×Int)=>[(0,(vV (ax 0) 1 a.1)),(3,(vI a.2.1))]) (λ(a:(List Int)×Int×Int)=>[((ax 0),some (bV 1 eI a.1))]) (λ(t:Nat)=>(λ(a:(List Int)×Int×Int)=>[(0,(vV (ax 0) 1 a.1)),(3,(vI a.2.1)),(4,(.vs (ax 0) 1 ((c).toNat) (((b.length:Int)).toNat-(c).toNat))),(5,(vI a.2.2))])) (λs=>iK b c s) Ä Á (b,c,1) B rfl (aG rfl) ?_ ?_
      ·rintro ⟨t,a⟩ k
       dsimp only at k
       cases t with
       | zero=>cases k
       | succ t =>
        obtain ⟨R,e,k⟩:=bind_some k
        unfold iK at e
        refine ak (ai (aa (vI a.2.2) (aa (.vs (ax 0) 1 ((c).toNat) (((b.length:Int)).toNat-(c).toNat)) (Rw zL rfl wz (aa (vB (decide (a.2.2<(((((b.length:Int)).toNat-(c).toNat):Nat):Int)))) (ah ?_))))))
        rcases aj e with⟨y,e⟩|⟨y,e⟩
        ·refine aA rfl y (av (ak (aK (ak (bv (aa (.vs (ax 0) 1 ((c).toNat) (((b.length:Int)).toNat-(c).toNat)) (aa (vI a.2.2) ?_)))))))
         obtain ⟨_,M,e⟩:=bind_some e
         refine Bz nZ rfl rfl (JG M) (DX M) wz ?_
         obtain ⟨I,X,e⟩:=bind_some e
         refine F8 3 0 (.inr (by kernel_rfl)) (λ_ _ ag=>trivial) sz3 ag3 rfl rfl X (vI I) rfl wz (aa (.vs (ax 0) 1 ((c).toNat) (((b.length:Int)).toNat-(c).toNat)) (aa (vI a.2.2) (aa (vI (w64 (a.2.2-1))) ?_)))
         obtain ⟨_,N,e⟩:=bind_some e
         refine Bz nZ rfl rfl (JG N) (DX N) wz ?_
         obtain ⟨J,Y,e⟩:=bind_some e
         refine F8 8 0 (.inr (by kernel_rfl)) (λ_ _ ag=>⟨.inl ⟨rfl,rfl⟩,trivial⟩) sz3 ag3 rfl rfl Y (vI J) rfl wz (aa (vB (I != J)) (ah ?_))
         obtain ⟨n,f,e⟩:=bind_some e
         refine aR [(0,(vV (ax 0) 1 n.1)),(3,(vI n.2)),(4,(.vs (ax 0) 1 ((c).toNat) (((b.length:Int)).toNat-(c).toNat))),(5,(vI a.2.2))] [((ax 0),some (bV 1 eI n.1))] ?_ ?_
         ·rcases aj f with⟨z,f⟩|⟨z,f⟩
          ·refine aA rfl z (ai (aa (vV (ax 0) 1 a.1) (aa (vI a.2.1) (aa (.vs (ax 0) 1 ((c).toNat) (((b.length:Int)).toNat-(c).toNat)) (aa (vI a.2.2) ?_)))))
           obtain ⟨_,O,f⟩:=bind_some f
           refine Bz nZ rfl rfl (JG O) (DX O) wz ?_
           obtain ⟨p,Z,f⟩:=bind_some f
           refine F8 0 0 il ft sz3 ag3 rfl rfl Z (vI p) rfl wz ?_
           obtain ⟨_,P,f⟩:=bind_some f
           refine Bz nZ rfl rfl (gN P) (dP P) wz ?_
           obtain ⟨Å,À,f⟩:=bind_some f
           refine QW 0 il ft 0 sz3 rfl rfl À p rfl wz (bT (v':=(vV (ax 0) 1 (a.1.set (0+(a.2.1).toNat) p))) 0 rfl (zR (by simp)) (bT (v':=(vV (ax 0) 1 (a.1.set (0+(a.2.1).toNat) p))) 45 rfl (zR (by simp)) (ah (au (aa (vI a.2.1) (aa (vI (w64 (a.2.1+1))) (aa (vI (w64 (a.2.1+1))) (ah ?_))))))))
           obtain rfl:=ae f
           exact cu
          ·refine ay rfl z (av ?_)
           obtain rfl:=ae f
           exact cu
         ·rintro ⟨⟩ _ Q F l m
          refine aN _ l m (au (aa (vI a.2.2) (aa (vI (w64 (a.2.2+1))) (aa (vI (w64 (a.2.2+1))) (ah ?_)))))
          obtain rfl:=ae e
          exact aV (t,(n.1,n.2,(w64 (a.2.2+1)))) k (ls_ _) rfl (aG rfl)
        ·refine ay rfl y (aX ?_)
         obtain rfl:=ae e
         obtain rfl:=ae k
         exact aU ((a.1,a.2.1,a.2.2)) rfl rfl (aG rfl)
      ·rintro a C Q F l m
       subst C
       refine aN _ l m (ai (aa (vV (ax 0) 1 a.1) (aa (vI a.2.1) ?_)))
       obtain ⟨_,q,d⟩:=bind_some d
       refine Cz zL sz3 rfl rfl q wz (Pm (i:=0) 0 il ft 0 Sr sz3 z3 rfl rfl rfl (by decide) rfl (uQ q) rfl wz (bT (v':=(vV (ax 0) 1 (a.1.take ((a.2.1).toNat)++List.replicate (((a.1.length:Int)).toNat-(a.2.1).toNat) 0++a.1.drop (((a.2.1).toNat)+(((a.1.length:Int)).toNat-(a.2.1).toNat))))) 0 rfl (zR (Aq (uQ q))) (bT (v':=(vV (ax 0) 1 (a.1.take ((a.2.1).toNat)++List.replicate (((a.1.length:Int)).toNat-(a.2.1).toNat) 0++a.1.drop (((a.2.1).toNat)+(((a.1.length:Int)).toNat-(a.2.1).toNat))))) 54 rfl (zR (Aq (uQ q))) (ah (ai (aa (vV (ax 0) 1 (a.1.take ((a.2.1).toNat)++List.replicate (((a.1.length:Int)).toNat-(a.2.1).toNat) 0++a.1.drop (((a.2.1).toNat)+(((a.1.length:Int)).toNat-(a.2.1).toNat)))) (aa (vI a.2.1) ?_)))))))
       obtain ⟨_,E,d⟩:=bind_some d
       refine Mk zL sz3 rfl rfl E wz (aa (.vs (ax 0) 1 0 ((a.2.1).toNat)) (ah (Lb 0 rfl (JJ 0 0 rfl rfl (RJ 2 0 rfl rfl (uQ E) (JJ 54 0 rfl rfl (JJ 57 0 rfl rfl (RJ 59 0 rfl rfl (uQ E) (JY (i:=0) rfl ?_)))))))))
       obtain rfl:=ae d
       obtain rfl:=ae j
       obtain rfl:=ae g
       exact aB (uY (bs:=([]:List Box)) (os:=([]:List Box)) (xs:=b) (o:=none) (.inr rfl) [(vL eI (IW (a.1.take ((a.2.1).toNat)++List.replicate (((a.1.length:Int)).toNat-(a.2.1).toNat) 0++a.1.drop (((a.2.1).toNat)+(((a.1.length:Int)).toNat-(a.2.1).toNat))) 0 ((a.2.1).toNat)))] ⟨rfl,trivial⟩ rfl rfl rfl rfl rfl (by kernel_rfl) wV rfl)
     ·refine ay rfl x (av (au (aa (vI c) (aa (vI (w64 (c+1))) (aa (vI (w64 (c+1))) (ah ?_))))))
      obtain rfl:=ae d
      exact aV (u,(w64 (c+1))) j (ls_ _) rfl (aG rfl)
    ·refine ay rfl v (aX ?_)
     obtain rfl:=ae d
     obtain rfl:=ae j
     exact aU (c) rfl rfl (aG rfl)
  ·rintro c C Q F l m
   subst C
   refine aN _ l m (ai (aa (dV (ax 0) 1 b) (aa (dV (ax 0) 1 b) (ah (jP 0 rfl (Cn 0 0 rfl rfl (Cn 2 0 rfl rfl (Cn 60 0 rfl rfl (JY (i:=0) rfl ?_)))))))))
   obtain rfl:=ae g
   exact aB (uY (bs:=([]:List Box)) (os:=([]:List Box)) (xs:=b) (o:=none) (.inr rfl) [(vL eI b)] ⟨rfl,trivial⟩ rfl rfl rfl rfl rfl (by kernel_rfl) wV rfl)
theorem EE {a:Run} {b:Run} {r:Int} (c:xq a b=some r) :
  FnM Tryz.prog 169 [(.d (.agg (Run.enc a))),(.d (.agg (Run.enc b)))] [] (vI r) []:=by
 refine FnM.of_wH ⟨Tryz.prog,10,[],[]⟩ rfl Tryz.func169 rfl rfl (lb_ rfl) (by kernel_rfl) ?_
 unfold xq at c
 refine ai (eT 0 (.inl rfl) [(vI a.f_from),(vI a.f_to)] rfl rfl wz (λe=>eT 0 (.inl rfl) [(vI b.f_from),(vI b.f_to)] rfl rfl wz (λf=>aa (vI 0) (ah (ai (aH nT rfl 0 rfl wz (aC 0 0 il ft sz3 ag3 rfl rfl (vI a.f_from) rfl wz (aH nT rfl 0 rfl wz (aC 0 1 il ft sz3 ag3 rfl rfl (vI b.f_from) rfl wz (aa (vI (w64 (a.f_from-b.f_from))) (aa (vI (w64 (a.f_from-b.f_from))) (ah ?_))))))))))))
 obtain rfl:=ae c
 exact aB (aM [(vI (w64 (a.f_from-b.f_from)))] ⟨rfl,trivial⟩)
theorem l9 {k:(List Run)} {f:Int} {h:Int} {r:(List Run)} (p:bU k f h=some r) :
  FnM Tryz.prog 216 [(dV (ax 0) 2 k),(vI f),(vI h),(.fn 169 [])] (([]:List Box)++gI 2 Run.enc k) (.tup []) (([]:List Box).map some++gT k (gB 2 Run.enc r)):=by
 refine FnM.of_wHv ⟨Tryz.prog,53,[],[]⟩ rfl Tryz.func216 rfl rfl (lb_ rfl) (by kernel_rfl) ?_
 unfold bU at p
 refine ai (aa (vI f) (aa (vI (w64 (f+1))) (aa (vI (w64 (f+1))) (ah ?_))))
 obtain ⟨Z,y,p⟩:=bind_some p
 obtain ⟨Y,y⟩:=dF y
 refine eU (λ(c:(List Run)×Int)=>[]) (λ(c:(List Run)×Int)=>[((ax 0),gB 2 Run.enc c.1)]) (λ(u:Nat)=>(λ(c:(List Run)×Int)=>[(0,(dV (ax 0) 2 c.1)),(1,(vI f)),(2,(vI h)),(3,(.fn 169 [])),(8,(vI c.2))])) (λs=>bR h f s) Z Y (k,(w64 (f+1))) y rfl (aG rfl) ?_ ?_
 ·rintro ⟨u,c⟩ l
  dsimp only at l
  cases u with
  | zero=>cases l
  | succ u =>
   obtain ⟨L,j,l⟩:=bind_some l
   unfold bR at j
   refine ak (ai (aa (vI c.2) (aa (vI h) (aa (vB (decide (c.2<h))) (ah ?_)))))
   rcases aj j with⟨v,j⟩|⟨v,j⟩
   ·refine aA rfl v (av (ak (aK (ai (aa (vI c.2) (aa (vI c.2) (ah ?_)))))))
    obtain ⟨À,z,j⟩:=bind_some j
    obtain ⟨X,z⟩:=dF z
    refine eU (λ(a:(List Run)×Int)=>[(0,(dV (ax 0) 2 a.1)),(1,(vI f)),(2,(vI h)),(3,(.fn 169 [])),(8,(vI c.2))]) (λ(a:(List Run)×Int)=>[((ax 0),gB 2 Run.enc a.1)]) (λ(t:Nat)=>(λ(a:(List Run)×Int)=>[(0,(dV (ax 0) 2 a.1)),(1,(vI f)),(2,(vI h)),(3,(.fn 169 [])),(8,(vI c.2)),(9,(vI a.2))])) (λs=>dB f s) À X (c.1,c.2) z rfl (aG rfl) ?_ ?_
    ·rintro ⟨t,a⟩ m
     dsimp only at m
     cases t with
     | zero=>cases m
     | succ t =>
      obtain ⟨L,b,m⟩:=bind_some m
      unfold dB at b
      refine ak (ak ?_)
      obtain ⟨Á,e,b⟩:=bind_some b
      refine aR [(0,(dV (ax 0) 2 a.1)),(1,(vI f)),(2,(vI h)),(3,(.fn 169 [])),(8,(vI c.2)),(9,(vI a.2)),(34,(vB Á))] [((ax 0),gB 2 Run.enc a.1)] ?_ ?_
      ·refine bv (aa (vI a.2) (aa (vI f) (aa (vB (decide (a.2>f))) ?_)))
       rcases aj e with⟨w,e⟩|⟨w,e⟩
       ·refine aF rfl w wz (aJ (.fn 169 []) wa rfl (aJ (dV (ax 0) 2 a.1) wa rfl (aJ (vI a.2) wa rfl ?_)))
        obtain ⟨_,C,e⟩:=bind_some e
        refine iZ oJ rfl rfl (gN C) (dP C) wa ?_
        obtain ⟨M,P,e⟩:=bind_some e
        refine jm 8 0 (.inr (by kernel_rfl)) (λ_ _ ag=>trivial) qL Ac rfl rfl P (.d (.agg (Run.enc M))) rfl wa (aJ (dV (ax 0) 2 a.1) wa rfl (aJ (vI a.2) wa rfl (aJ (vI (w64 (a.2-1))) wa rfl ?_)))
        obtain ⟨_,E,e⟩:=bind_some e
        refine iZ oJ rfl rfl (gN E) (dP E) wa ?_
        obtain ⟨N,Q,e⟩:=bind_some e
        refine jm 13 0 (.inr (by kernel_rfl)) (λ_ _ ag=>⟨.inl ⟨rfl,rfl⟩,trivial⟩) qL Ac rfl rfl Q (.d (.agg (Run.enc N))) rfl wa ?_
        obtain ⟨J,O,e⟩:=bind_some e
        refine aD (EE O) rfl hb169 rfl rfl rfl rfl wa (aJ (vB (decide (J<0))) wa rfl (aa (vB (decide (J<0))) (ah ?_)))
        obtain rfl:=ae e
        exact cu
       ·refine aF rfl w wz (af (af (af (af (af (af (af (af (af (af (af (af (aa (vB false) (ah ?_))))))))))))))
        obtain rfl:=ae e
        exact cu
      ·rintro ⟨⟩ _ K B q n
       refine aN _ q n ?_
       rcases aj b with⟨x,b⟩|⟨x,b⟩
       ·refine aA rfl x (av (ak (aK (bv (aa (dV (ax 0) 2 a.1) (aa (vI a.2) (aa (dV (ax 0) 2 a.1) (aa (vI a.2) (aa (vI (w64 (a.2-1))) (aa (dV (ax 0) 2 a.1) (aa (vI a.2) (aa (vI (w64 (a.2-1))) ?_))))))))))))
        obtain ⟨_,F,b⟩:=bind_some b
        refine iZ oJ rfl rfl (gN F) (dP F) wz ?_
        obtain ⟨g,R,b⟩:=bind_some b
        refine jm 9 0 (.inr (by kernel_rfl)) (λ_ _ ag=>trivial) qL Ac rfl rfl R (.d (.agg (Run.enc g))) rfl wz (aa (dV (ax 0) 2 a.1) (aa (vI a.2) ?_))
        obtain ⟨_,G,b⟩:=bind_some b
        refine iZ oJ rfl rfl (gN G) (dP G) wz ?_
        obtain ⟨i,T,b⟩:=bind_some b
        refine jm 13 0 (.inr (by kernel_rfl)) (λ_ _ ag=>⟨.inl ⟨rfl,rfl⟩,trivial⟩) qL Ac rfl rfl T (.d (.agg (Run.enc i))) rfl wz ?_
        obtain ⟨_,H,b⟩:=bind_some b
        refine iZ oJ rfl rfl (gN H) (dP H) wz ?_
        obtain ⟨Â,U,b⟩:=bind_some b
        refine pR 15 (.inr (by kernel_rfl)) (λ_ _ ag=>⟨.inr (.inr (by kernel_rfl)),⟨.inr (.inr (by kernel_rfl)),trivial⟩⟩) 0 qL rfl rfl U g rfl wz (bT (v':=(dV (ax 0) 2 (a.1.set (0+(a.2).toNat) g))) 0 rfl (bP (by simp)) (bT (v':=(dV (ax 0) 2 (a.1.set (0+(a.2).toNat) g))) 37 rfl (bP (by simp)) (bT (v':=(dV (ax 0) 2 (a.1.set (0+(a.2).toNat) g))) 39 rfl (bP (by simp)) (bT (v':=(dV (ax 0) 2 (a.1.set (0+(a.2).toNat) g))) 42 rfl (bP (by simp)) (bT (v':=(dV (ax 0) 2 (a.1.set (0+(a.2).toNat) g))) 47 rfl (bP (by simp)) ?_)))))
        obtain ⟨_,I,b⟩:=bind_some b
        refine iZ oJ rfl rfl (gN I) (dP I) wz ?_
        obtain ⟨Ã,W,b⟩:=bind_some b
        refine pR 17 (.inr (by kernel_rfl)) (λ_ _ ag=>⟨.inr (.inr (by kernel_rfl)),⟨.inr (.inr (by kernel_rfl)),⟨.inr (.inr (by kernel_rfl)),trivial⟩⟩⟩) 0 qL rfl rfl W i rfl wz (bT (v':=(dV (ax 0) 2 ((a.1.set (0+(a.2).toNat) g).set (0+((w64 (a.2-1))).toNat) i))) 0 rfl (bP (by simp)) (bT (v':=(dV (ax 0) 2 ((a.1.set (0+(a.2).toNat) g).set (0+((w64 (a.2-1))).toNat) i))) 37 rfl (bP (by simp)) (bT (v':=(dV (ax 0) 2 ((a.1.set (0+(a.2).toNat) g).set (0+((w64 (a.2-1))).toNat) i))) 39 rfl (bP (by simp)) (bT (v':=(dV (ax 0) 2 ((a.1.set (0+(a.2).toNat) g).set (0+((w64 (a.2-1))).toNat) i))) 42 rfl (bP (by simp)) (bT (v':=(dV (ax 0) 2 ((a.1.set (0+(a.2).toNat) g).set (0+((w64 (a.2-1))).toNat) i))) 47 rfl (bP (by simp)) (ah (au (aa (vI a.2) (aa (vI (w64 (a.2-1))) (aa (vI (w64 (a.2-1))) (ah ?_)))))))))))
        obtain rfl:=ae b
        exact aV (t,(((a.1.set (0+(a.2).toNat) g).set (0+((w64 (a.2-1))).toNat) i),(w64 (a.2-1)))) m (ls_ _) rfl (aG rfl)
       ·refine ay rfl x (aX ?_)
        obtain rfl:=ae b
        obtain rfl:=ae m
        exact aU ((a.1,a.2)) rfl rfl (aG rfl)
    ·rintro a A K B q n
     subst A
     refine aN _ q n (au (aa (vI c.2) (aa (vI (w64 (c.2+1))) (aa (vI (w64 (c.2+1))) (ah ?_)))))
     obtain rfl:=ae j
     exact aV (u,(a.1,(w64 (c.2+1)))) l (ls_ _) rfl (aG rfl)
   ·refine ay rfl v (aX ?_)
    obtain rfl:=ae j
    obtain rfl:=ae l
    exact aU ((c.1,c.2)) rfl rfl (aG rfl)
 ·rintro c A K B q n
  subst A
  show pI _ _ _ _ _ _ _ _
  obtain rfl:=ae p
  exact nV (H0:=([((ax 0),gB 2 Run.enc c.1)]:Hp)) (sl':=envS []) n (uY (bs:=([]:List Box)) (os:=([]:List Box)) (xs:=k) (o:=gB 2 Run.enc c.1) (.inl rfl) [] trivial rfl rfl rfl rfl rfl (by kernel_rfl) jN rfl)
theorem oP {a:(List Run)} {c:Int} {d:Int} {e:Int} {r:(List Run)} (f:dH a c d e=some r) :
  FnM Tryz.prog 199 [(dV (ax 0) 2 a),(vI c),(vI d),(vI e),(.fn 169 [])] (([]:List Box)++gI 2 Run.enc a) (.tup []) (([]:List Box).map some++gT a (gB 2 Run.enc r)):=by
 refine FnM.of_wHv ⟨Tryz.prog,148,[],[]⟩ rfl Tryz.func199 rfl rfl (lb_ rfl) (by kernel_rfl) ?_
 unfold dH at f
 refine ai (aa (vB true) (ah (ai (aa (vB true) (ah ?_)))))
 obtain ⟨v,m,f⟩:=bind_some f
 obtain ⟨u,m⟩:=dF m
 refine eU (λ(j:Unit)=>[]) (λ(j:Unit)=>[((ax 0),gB 2 Run.enc a)]) (λ(n:Nat)=>(λ(j:Unit)=>[(0,(dV (ax 0) 2 a)),(1,(vI c)),(2,(vI d)),(3,(vI e)),(4,(.fn 169 [])),(10,(vB true)),(11,(vB true))])) (λs=>di d c a e s) v u () m rfl (aG rfl) ?_ ?_
 ·rintro ⟨n,j⟩ g
  dsimp only at g
  cases n with
  | zero=>cases g
  | succ n =>
   obtain ⟨x,b,g⟩:=bind_some g
   unfold di at b
   refine aK (ai (aa (vI d) (aa (vI c) (aa (vI (w64 (d-c))) (aa (vI (w64 (d-c))) (ah (ak (ai (aa (vI (w64 (d-c))) (aa (vB (decide ((w64 (d-c))<=12))) (ah ?_)))))))))))
   rcases aj b with⟨k,b⟩|⟨k,b⟩
   ·refine aA rfl k (ai (aa (dV (ax 0) 2 a) (aa (vI c) (aa (vI d) (aa (.fn 169 []) ?_)))))
    obtain ⟨i,t,b⟩:=bind_some b
    obtain ⟨_,h,b⟩:=bind_some b
    replace h:=jQ h
    refine kC 0 [] 0 0 il ft (l9 t) rfl hb216 rfl rfl rfl (by kernel_rfl) rfl (.inr (.inl rfl)) rfl (by kernel_rfl) (by kernel_rfl) (by kernel_rfl) (by kernel_rfl) rfl (by decide) (by kernel_rfl) jN (tV h) wz ([((ax 0),gB 2 Run.enc i)]:Hp) (by kernel_rfl) (bT (v':=(dV (ax 0) 2 i)) 0 rfl (bP h.symm) (bT (v':=(dV (ax 0) 2 i)) 26 rfl (bP h.symm) (ah ?_)))
    obtain rfl:=ae b
    obtain rfl:=ae g
    obtain rfl:=ae f
    exact aB (uY (bs:=([]:List Box)) (os:=([]:List Box)) (xs:=a) (o:=gB 2 Run.enc i) (.inr rfl) [] trivial rfl rfl rfl rfl rfl (by kernel_rfl) jN rfl)
   ·refine ay rfl k (av (ak (ai (aa (vI e) (aa (vB (e==0)) (ah ?_))))))
    rcases aj b with⟨l,b⟩|⟨l,b⟩
    ·refine aA rfl l (ai (aa (dV (ax 0) 2 a) (aa (vI c) (aa (vI d) (aa (.fn 169 []) ?_)))))
     cases b
    ·refine ay rfl l (av (ak (ai (aa (vB true) (aa (vB false) (ah (ay rfl rfl (av (ai (aa (dV (ax 0) 2 a) (aa (vI c) (aa (vI d) (aa (.fn 169 []) ?_)))))))))))))
     cases b
 ·rintro j p z w y q
  subst p
  show pI _ _ _ _ _ _ _ _
  obtain rfl:=ae f
  exact nV (H0:=([((ax 0),gB 2 Run.enc a)]:Hp)) (sl':=envS []) q (uY (bs:=([]:List Box)) (os:=([]:List Box)) (xs:=a) (o:=gB 2 Run.enc a) (.inl rfl) [] trivial rfl rfl rfl rfl rfl (by kernel_rfl) jN rfl)
theorem mM {a:(List Run)} {r:(List Run)} (b:cz a=some r) :
  FnM Tryz.prog 168 [(dV (ax 0) 2 a),(.fn 169 [])] (([]:List Box)++gI 2 Run.enc a) (.tup []) (([]:List Box).map some++gT a (gB 2 Run.enc r)):=by
 refine FnM.of_wHv ⟨Tryz.prog,14,[],[]⟩ rfl Tryz.func168 rfl rfl (lb_ rfl) (by kernel_rfl) ?_
 unfold cz at b
 refine ai (aa (dV (ax 0) 2 a) (wZ Bu rfl wz (aa (vI (a.length:Int)) (ah (au (aa (dV (ax 0) 2 a) (aa (vI (a.length:Int)) (aa (vI (a.length:Int)) (zH un3 JO rfl wz ?_)))))))))
 obtain ⟨g,e,b⟩:=bind_some b
 refine aD (o9 e) rfl hb65 rfl rfl rfl rfl wz (aa (.fn 169 []) ?_)
 obtain ⟨d,f,b⟩:=bind_some b
 obtain ⟨_,c,b⟩:=bind_some b
 replace c:=jQ c
 refine kC 0 [] 0 0 il ft (oP f) rfl hb199 rfl rfl rfl (by kernel_rfl) rfl (.inr (.inl rfl)) rfl (by kernel_rfl) (by kernel_rfl) (by kernel_rfl) (by kernel_rfl) rfl (by decide) (by kernel_rfl) jN (tV c) wz ([((ax 0),gB 2 Run.enc d)]:Hp) (by kernel_rfl) (bT (v':=(dV (ax 0) 2 d)) 0 rfl (bP c.symm) (bT (v':=(dV (ax 0) 2 d)) 5 rfl (bP c.symm) (bT (v':=(dV (ax 0) 2 d)) 7 rfl (bP c.symm) (ah ?_))))
 show pI _ _ _ _ _ _ _ _
 obtain rfl:=ae b
 exact uY (bs:=([]:List Box)) (os:=([]:List Box)) (xs:=a) (o:=gB 2 Run.enc d) (.inl rfl) [] trivial rfl rfl rfl rfl rfl (by kernel_rfl) jN rfl
theorem Ai {j:(List Rect)} {o:Int} {r:(List Run)} (q:qG j o=some r) :
  FnM Tryz.prog 137 [(vL Rect.enc j),(vI o)] [] (vL Run.enc r) []:=by
 refine FnM.of_wH ⟨Tryz.prog,84,[],[]⟩ rfl Tryz.func137 rfl rfl (lb_ rfl) (by kernel_rfl) ?_
 unfold qG at q
 refine ai (aa .nil (ah (ai (aa .nil (ah (ak (ai (aa (vL Rect.enc j) (bJ yP rfl wz (aa (vI 0) (ah (jl (λÛ => ?_)))))))))))))
 obtain ⟨Ü,À,q⟩:=bind_some q
 obtain ⟨Ò,À⟩:=aS À
 refine gq (σ:=(List Run)) (N:=Nm) (λp=>(λ(l:List Run) (e:Nm)=>([(5,(gV e 2 l))]:SL_)) p.1 p.2) (λp=>(λ(l:List Run) (e:Nm)=>([(e,gB 2 Run.enc l)]:Hp)) p.1 p.2) (λ(u:Nat)=>(λp=>(λ(l:List Run) (e:Nm)=>([(1,(vI o)),(5,(gV e 2 l)),(12,(vL Rect.enc j)),(13,(vI (j.length:Int))),(14,(vI (u:Int)))]:SL_)) p.1 p.2)) (λk x s=>qU o k x s) Ü j (([]:List Run),Û) À rfl (aG rfl) ?_ ?_
 ·rintro ⟨u,Ä,l,e⟩ ⟨G,B⟩
  dsimp only at G B
  cases Ä with
  | nil =>
   obtain rfl:=ae G
   refine ai (aa (vB (decide ((u:Int)<(j.length:Int)))) (ah ?_))
   refine ak (ay rfl (drop_nil B) (aX ?_))
   exact aU (l,e) rfl rfl (aG rfl)
  | cons b Ä =>
   obtain ⟨Ð,C,G⟩:=bind_some G
   refine ai (aa (vB (decide ((u:Int)<(j.length:Int)))) (ah ?_))
   refine ak (aA rfl (aZ B) (av ?_))
   unfold qU at C
   refine ak (aK (ai (dK BC rfl rfl (bz B) rfl wz (bK rV Ed rfl (.d (.agg (Rect.enc b))) rfl wz (bZ 0 (.inl rfl) z42 rfl wz (λÅ=>gp 0 il ft 1 rV rfl rfl (Rect.v b) rfl wz (ah (ak ?_))))))))
   obtain ⟨Þ,J,C⟩:=bind_some C
   refine aR [(1,(vI o)),(5,(gV e 2 l)),(7,(.ref Å 0 0)),(12,(vL Rect.enc j)),(13,(vI (j.length:Int))),(14,(vI (u:Int))),(30,(vB Þ))] [(e,gB 2 Run.enc l),(Å,some (.cells 4 (Rect.v b)))] ?_ ?_
   ·refine au (aH yT rfl 1 rfl wz (aC 0 1 il ft sz3 ag3 rfl rfl (vI b.Y) rfl wz (aa (vI o) (aa (vB (decide (b.Y<=o))) ?_))))
    rcases aj J with⟨R,J⟩|⟨R,J⟩
    ·refine aF rfl R wz (aJ (vI o) wa rfl (aH yT rfl 1 rfl wa (aC 0 1 il ft sz3 ag3 rfl rfl (vI b.Y) rfl wa (aH DK rfl 3 rfl wa (aC 0 1 il ft sz3 ag3 rfl rfl (vI b.H) rfl wa (aJ (vI (w64 (b.Y+b.H))) wa rfl (aJ (vB (decide (o<(w64 (b.Y+b.H))))) wa rfl (aa (vB (decide (o<(w64 (b.Y+b.H))))) (ah ?_)))))))))
     obtain rfl:=ae J
     exact cu
    ·refine aF rfl R wz (af (af (af (af (af (af (af (aa (vB false) (ah ?_)))))))))
     obtain rfl:=ae J
     exact cu
   ·rintro ⟨⟩ _ O F m n
    refine aN _ m n ?_
    obtain ⟨Ç,y,C⟩:=bind_some C
    refine kT (β:=Nm) (λ(L:Nm)=>([(1,(vI o)),(5,(gV L 2 Ç)),(12,(vL Rect.enc j)),(13,(vI (j.length:Int))),(14,(vI (u:Int)))]:SL_)) (λ(L:Nm)=>([(L,gB 2 Run.enc Ç),(Å,some (.cells 4 (Rect.v b)))]:Hp)) (λ_=>True) ?_ ?_
    ·rcases aj y with⟨T,y⟩|⟨T,y⟩
     ·refine aA rfl T (au (aa (gV e 2 l) (aH BJ rfl 0 rfl wz (aC 0 1 il ft sz3 ag3 rfl rfl (vI b.X) rfl wz (aH BJ rfl 0 rfl wz (aC 0 1 il ft sz3 ag3 rfl rfl (vI b.X) rfl wz (aH F6 rfl 2 rfl wz (aC 0 1 il ft sz3 ag3 rfl rfl (vI b.W) rfl wz (aa (vI (w64 (b.X+b.W))) (aJ (.d (.agg (Run.enc (⟨b.X,(w64 (b.X+b.W))⟩:Run)))) wz (by kernel_rfl) (dW (([(⟨b.X,(w64 (b.X+b.W))⟩:Run)]:List Run).map Run.enc) oJ OY rfl rfl rfl rfl rfl wz ?_)))))))))))
      obtain ⟨Î,Ø,y⟩:=bind_some y
      refine lh 0 il ft (i:=0) EO EO qL Oc rfl (by decide) Pf (by decide) (λ_=>rfl) rfl rfl rfl Ø wz (λÌ=>aa (gV Ì 2 Î) (ah ?_))
      obtain rfl:=ae y
      exact aU Ì trivial rfl (aG rfl)
     ·refine ay rfl T (av ?_)
      obtain rfl:=ae y
      exact aU e trivial rfl (aG rfl)
    ·rintro L _ O F m n
     refine aN _ m n (au (dx (bf B Ò) wz rfl (aa (vI ((u+1:Nat):Int)) (ah ?_))))
     obtain rfl:=ae C
     exact aV (u+1,Ä,Ç,L) ⟨G,aP B⟩ (ls_ _) rfl (aG rfl)
 ·rintro ⟨l,e⟩ Â O F m n
  subst Â
  refine aN _ m n (ai (aa (gV e 2 l) ?_))
  obtain ⟨g,Ó,q⟩:=bind_some q
  obtain ⟨_,K,q⟩:=bind_some q
  replace K:=jQ K
  refine kC 0 [] 0 0 il ft (mM Ó) rfl hb168 rfl rfl rfl (by kernel_rfl) rfl (.inl rfl) rfl (by kernel_rfl) (by kernel_rfl) (by kernel_rfl) (by kernel_rfl) rfl (by decide) (by kernel_rfl) jN (tV K) wz ([(e,gB 2 Run.enc g)]:Hp) (by kernel_rfl) (bT (v':=(gV e 2 g)) 43 rfl (fC K.symm) (bT (v':=(gV e 2 g)) 5 rfl (fC K.symm) (ah (ai (aa .nil (ah (ak (ai (aa (gV e 2 g) (zG Bu rfl wz (aa (vI 0) (ah (jP 0 rfl (fI 5 0 rfl rfl (fI 43 0 rfl rfl (fI 45 0 rfl rfl (jl (λÚ => ?_))))))))))))))))))
  obtain ⟨Ý,Á,q⟩:=bind_some q
  obtain ⟨Ñ,Á⟩:=aS Á
  refine gq (σ:=(List Run)) (N:=Nm) (λp=>(λ(a:List Run) (c:Nm)=>([(8,(gV c 2 a))]:SL_)) p.1 p.2) (λp=>(λ(a:List Run) (c:Nm)=>([(e,gF 2 Run.enc g),(c,gB 2 Run.enc a)]:Hp)) p.1 p.2) (λ(w:Nat)=>(λp=>(λ(a:List Run) (c:Nm)=>([(8,(gV c 2 a)),(45,(vL Run.enc g)),(46,(vI (g.length:Int))),(47,(vI (w:Int)))]:SL_)) p.1 p.2)) (λk x s=>rC k x s) Ý g (([]:List Run),Ú) Á rfl (aG rfl) ?_ ?_
  ·rintro ⟨w,Ã,a,c⟩ ⟨I,A⟩
   dsimp only at I A
   cases Ã with
   | nil =>
    obtain rfl:=ae I
    refine ai (aa (vB (decide ((w:Int)<(g.length:Int)))) (ah ?_))
    refine ak (ay rfl (drop_nil A) (aX ?_))
    exact aU (a,c) rfl rfl (aG rfl)
   | cons f Ã =>
    obtain ⟨Ð,E,I⟩:=bind_some I
    refine ai (aa (vB (decide ((w:Int)<(g.length:Int)))) (ah ?_))
    refine ak (aA rfl (aZ A) (av ?_))
    unfold rC at E
    refine ak (aK (ai (dK oJ rfl rfl (bz A) rfl wz (bK qL Ac rfl (.d (.agg (Run.enc f))) rfl wz (bZ 0 (.inl rfl) Oc rfl wz (λÆ=>gp 0 il ft 2 qL rfl rfl [(vI f.f_from),(vI f.f_to)] rfl wz (ah (ai (aa (gV c 2 a) (zG Bu rfl wz (aa (vI (w64 ((a.length:Int)-1))) (aa (vI (w64 ((a.length:Int)-1))) (ah (ak ?_))))))))))))))
    obtain ⟨ß,t,E⟩:=bind_some E
    refine aR [(8,(gV c 2 a)),(10,(.ref Æ 0 0)),(11,(vI (w64 ((a.length:Int)-1)))),(45,(vL Run.enc g)),(46,(vI (g.length:Int))),(47,(vI (w:Int))),(65,(vB ß))] [(e,gF 2 Run.enc g),(c,gB 2 Run.enc a),(Æ,some (.cells 2 [(vI f.f_from),(vI f.f_to)]))] ?_ ?_
    ·refine bv (aa (vI (w64 ((a.length:Int)-1))) (aa (vB (decide ((w64 ((a.length:Int)-1))>=0))) ?_))
     rcases aj t with⟨U,t⟩|⟨U,t⟩
     ·refine aF rfl U wz (aH nT rfl 0 rfl wa (aC 4 2 (.inr (by kernel_rfl)) (λ_ _ ag=>trivial) sz3 ag3 rfl rfl (vI f.f_from) rfl wa (aJ (gV c 2 a) wa rfl (aJ (vI (w64 ((a.length:Int)-1))) wa rfl ?_))))
      obtain ⟨_,É,t⟩:=bind_some t
      refine xg oJ rfl rfl (gN É) (dP É) wa (aH uR rfl 1 rfl wa ?_)
      obtain ⟨Q,Ô,t⟩:=bind_some t
      refine jm 9 1 (.inr (by kernel_rfl)) (λ_ _ ag=>⟨.inl ⟨rfl,rfl⟩,trivial⟩) sz3 ag3 rfl rfl Ô (vI Q.f_to) rfl wa (aJ (vB (decide (f.f_from<=Q.f_to))) wa rfl (aa (vB (decide (f.f_from<=Q.f_to))) (ah ?_)))
      obtain rfl:=ae t
      exact cu
     ·refine aF rfl U wz (af (af (af (af (af (af (af (af (aa (vB false) (ah ?_))))))))))
      obtain rfl:=ae t
      exact cu
    ·rintro ⟨⟩ _ O F m n
     refine aN _ m n ?_
     obtain ⟨È,h,E⟩:=bind_some E
     refine kT (β:=Nm) (λ(M:Nm)=>([(8,(gV M 2 È)),(45,(vL Run.enc g)),(46,(vI (g.length:Int))),(47,(vI (w:Int)))]:SL_)) (λ(M:Nm)=>([(e,gF 2 Run.enc g),(M,gB 2 Run.enc È),(Æ,some (.cells 2 [(vI f.f_from),(vI f.f_to)]))]:Hp)) (λ_=>True) ?_ ?_
     ·rcases aj h with⟨Z,h⟩|⟨Z,h⟩
      ·refine aA rfl Z (bv (aa (gV c 2 a) (aa (vI (w64 ((a.length:Int)-1))) (aa (gV c 2 a) (aa (vI (w64 ((a.length:Int)-1))) ?_)))))
       obtain ⟨_,Ê,h⟩:=bind_some h
       refine xg oJ rfl rfl (gN Ê) (dP Ê) wz (aH uR rfl 1 rfl wz ?_)
       obtain ⟨z,Õ,h⟩:=bind_some h
       refine jm 6 1 (.inr (by kernel_rfl)) (λ_ _ ag=>trivial) sz3 ag3 rfl rfl Õ (vI z.f_to) rfl wz (aH uR rfl 1 rfl wz (aC 8 2 (.inr (by kernel_rfl)) (λ_ _ ag=>⟨.inl ⟨rfl,rfl⟩,trivial⟩) sz3 ag3 rfl rfl (vI f.f_to) rfl wz (vG (vI (xH z.f_to f.f_to)) rfl (.inr rfl) wz ?_)))
       obtain ⟨_,Ë,h⟩:=bind_some h
       refine xg oJ rfl rfl (gN Ë) (dP Ë) wz (aH uR rfl 1 rfl wz ?_)
       obtain ⟨P,Ö,h⟩:=bind_some h
       refine pR 12 (.inr (by kernel_rfl)) (λ_ _ ag=>⟨.inr (.inr (by kernel_rfl)),⟨.inr (.inr (by kernel_rfl)),trivial⟩⟩) 1 sz3 rfl rfl Ö (⟨P.f_from,(xH z.f_to f.f_to)⟩:Run) rfl wz (bT (v':=(gV c 2 (a.set (0+((w64 ((a.length:Int)-1))).toNat) (⟨P.f_from,(xH z.f_to f.f_to)⟩:Run)))) 8 rfl (fC (by simp)) (bT (v':=(gV c 2 (a.set (0+((w64 ((a.length:Int)-1))).toNat) (⟨P.f_from,(xH z.f_to f.f_to)⟩:Run)))) 66 rfl (fC (by simp)) (bT (v':=(gV c 2 (a.set (0+((w64 ((a.length:Int)-1))).toNat) (⟨P.f_from,(xH z.f_to f.f_to)⟩:Run)))) 68 rfl (fC (by simp)) (ah ?_))))
       obtain rfl:=ae h
       exact aU c trivial rfl (aG rfl)
      ·refine ay rfl Z (au (aa (gV c 2 a) (aC 0 2 il ft qL Ac rfl rfl (.d (.agg (Run.enc f))) rfl wz (dW (([f]:List Run).map Run.enc) oJ OY rfl rfl rfl rfl rfl wz ?_))))
       obtain ⟨Ï,Ù,h⟩:=bind_some h
       refine lh 0 il ft (i:=1) EO EO qL Oc rfl (by decide) Pf (by decide) (λ_=>rfl) rfl rfl rfl Ù wz (λÍ=>aa (gV Í 2 Ï) (ah ?_))
       obtain rfl:=ae h
       exact aU Í trivial rfl (aG rfl)
     ·rintro M _ O F m n
      refine aN _ m n (au (dx (bf A Ñ) wz rfl (aa (vI ((w+1:Nat):Int)) (ah ?_))))
      obtain rfl:=ae E
      exact aV (w+1,Ã,È,M) ⟨I,aP A⟩ (ls_ _) rfl (aG rfl)
  ·rintro ⟨a,c⟩ Â O F m n
   subst Â
   refine aN _ m n (ai (aa (gV c 2 a) (aa (gV c 2 a) (ah (jP 1 rfl (fI 4 1 rfl rfl (fI 8 1 rfl rfl (fI 83 1 rfl rfl ?_))))))))
   obtain rfl:=ae q
   exact aB (aM [(vL Run.enc a)] ⟨rfl,trivial⟩)
end Go.Proofs.YtadpbmfnnlkdlacGreatDoor.Law

