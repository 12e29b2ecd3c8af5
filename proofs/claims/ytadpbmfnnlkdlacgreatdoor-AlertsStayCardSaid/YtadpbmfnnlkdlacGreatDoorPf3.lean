/-
 The machine computes these plain functions (written by a program of ours).
-/
import Derived.Test.YtadpbmfnnlkdlacGreatDoorFacts
import Derived.Test.YtadpbmfnnlkdlacGreatDoorDefs
import Derived.Test.YtadpbmfnnlkdlacGreatDoorPf2
import Derived.Test.YtadpbmfnnlkdlacGreatDoorShelf
open Go Go.Eng Go.Proofs
namespace Go.Proofs.YtadpbmfnnlkdlacGreatDoor.Law
set_option maxRecDepth 100000
set_option linter.unusedVariables false
set_option maxHeartbeats 1000000
theorem mG {k:(List Alert)} {f:Int} {h:Int} {r:(List Alert)} (p:fQ k f h=some r) :
  FnM Tryz.prog 97 [(dV (ax 0) 9 k),(vI f),(vI h),(.fn 35 [])] (([]:List Box)++gI 9 Alert.encW k) (.tup []) (([]:List Box).map some++gT k (gB 9 Alert.encW r)):=by
 refine FnM.of_wHv ⟨Tryz.prog,53,[],[]⟩ rfl Tryz.func97 rfl rfl (lb_ rfl) (by kernel_rfl) ?_
 unfold fQ at p
 refine ai (aa (vI f) (aa (vI (w64 (f+1))) (aa (vI (w64 (f+1))) (ah ?_))))
 obtain ⟨Z,y,p⟩:=bind_some p
 obtain ⟨Y,y⟩:=dF y
 refine eU (λ(c:(List Alert)×Int)=>[]) (λ(c:(List Alert)×Int)=>[((ax 0),gB 9 Alert.encW c.1)]) (λ(u:Nat)=>(λ(c:(List Alert)×Int)=>[(0,(dV (ax 0) 9 c.1)),(1,(vI f)),(2,(vI h)),(3,(.fn 35 [])),(8,(vI c.2))])) (λs=>fw h f s) Z Y (k,(w64 (f+1))) y rfl (aG rfl) ?_ ?_
 ·rintro ⟨u,c⟩ l
  dsimp only at l
  cases u with
  | zero=>cases l
  | succ u =>
   obtain ⟨L,j,l⟩:=bind_some l
   unfold fw at j
   refine ak (ai (aa (vI c.2) (aa (vI h) (aa (vB (decide (c.2<h))) (ah ?_)))))
   rcases aj j with⟨v,j⟩|⟨v,j⟩
   ·refine aA rfl v (av (ak (aK (ai (aa (vI c.2) (aa (vI c.2) (ah ?_)))))))
    obtain ⟨À,z,j⟩:=bind_some j
    obtain ⟨X,z⟩:=dF z
    refine eU (λ(a:(List Alert)×Int)=>[(0,(dV (ax 0) 9 a.1)),(1,(vI f)),(2,(vI h)),(3,(.fn 35 [])),(8,(vI c.2))]) (λ(a:(List Alert)×Int)=>[((ax 0),gB 9 Alert.encW a.1)]) (λ(t:Nat)=>(λ(a:(List Alert)×Int)=>[(0,(dV (ax 0) 9 a.1)),(1,(vI f)),(2,(vI h)),(3,(.fn 35 [])),(8,(vI c.2)),(9,(vI a.2))])) (λs=>fB f s) À X (c.1,c.2) z rfl (aG rfl) ?_ ?_
    ·rintro ⟨t,a⟩ m
     dsimp only at m
     cases t with
     | zero=>cases m
     | succ t =>
      obtain ⟨L,b,m⟩:=bind_some m
      unfold fB at b
      refine ak (ak ?_)
      obtain ⟨Á,e,b⟩:=bind_some b
      refine aR [(0,(dV (ax 0) 9 a.1)),(1,(vI f)),(2,(vI h)),(3,(.fn 35 [])),(8,(vI c.2)),(9,(vI a.2)),(34,(vB Á))] [((ax 0),gB 9 Alert.encW a.1)] ?_ ?_
      ·refine bv (aa (vI a.2) (aa (vI f) (aa (vB (decide (a.2>f))) ?_)))
       rcases aj e with⟨w,e⟩|⟨w,e⟩
       ·refine aF rfl w wz (aJ (.fn 35 []) wa rfl (aJ (dV (ax 0) 9 a.1) wa rfl (aJ (vI a.2) wa rfl ?_)))
        obtain ⟨_,C,e⟩:=bind_some e
        refine iZ mH rfl rfl (gN C) (dP C) wa ?_
        obtain ⟨M,P,e⟩:=bind_some e
        refine jm 8 0 (.inr (by kernel_rfl)) (λ_ _ ag=>trivial) fJ jZ rfl rfl P (.d (.agg (Alert.encW M))) rfl wa (aJ (dV (ax 0) 9 a.1) wa rfl (aJ (vI a.2) wa rfl (aJ (vI (w64 (a.2-1))) wa rfl ?_)))
        obtain ⟨_,E,e⟩:=bind_some e
        refine iZ mH rfl rfl (gN E) (dP E) wa ?_
        obtain ⟨N,Q,e⟩:=bind_some e
        refine jm 13 0 (.inr (by kernel_rfl)) (λ_ _ ag=>⟨.inl ⟨rfl,rfl⟩,trivial⟩) fJ jZ rfl rfl Q (.d (.agg (Alert.encW N))) rfl wa ?_
        obtain ⟨J,O,e⟩:=bind_some e
        refine aD (Bd O) rfl hb35 rfl rfl rfl rfl wa (aJ (vB (decide (J<0))) wa rfl (aa (vB (decide (J<0))) (ah ?_)))
        obtain rfl:=ae e
        exact cu
       ·refine aF rfl w wz (af (af (af (af (af (af (af (af (af (af (af (af (aa (vB false) (ah ?_))))))))))))))
        obtain rfl:=ae e
        exact cu
      ·rintro ⟨⟩ _ K B q n
       refine aN _ q n ?_
       rcases aj b with⟨x,b⟩|⟨x,b⟩
       ·refine aA rfl x (av (ak (aK (bv (aa (dV (ax 0) 9 a.1) (aa (vI a.2) (aa (dV (ax 0) 9 a.1) (aa (vI a.2) (aa (vI (w64 (a.2-1))) (aa (dV (ax 0) 9 a.1) (aa (vI a.2) (aa (vI (w64 (a.2-1))) ?_))))))))))))
        obtain ⟨_,F,b⟩:=bind_some b
        refine iZ mH rfl rfl (gN F) (dP F) wz ?_
        obtain ⟨g,R,b⟩:=bind_some b
        refine jm 9 0 (.inr (by kernel_rfl)) (λ_ _ ag=>trivial) fJ jZ rfl rfl R (.d (.agg (Alert.encW g))) rfl wz (aa (dV (ax 0) 9 a.1) (aa (vI a.2) ?_))
        obtain ⟨_,G,b⟩:=bind_some b
        refine iZ mH rfl rfl (gN G) (dP G) wz ?_
        obtain ⟨i,T,b⟩:=bind_some b
        refine jm 13 0 (.inr (by kernel_rfl)) (λ_ _ ag=>⟨.inl ⟨rfl,rfl⟩,trivial⟩) fJ jZ rfl rfl T (.d (.agg (Alert.encW i))) rfl wz ?_
        obtain ⟨_,H,b⟩:=bind_some b
        refine iZ mH rfl rfl (gN H) (dP H) wz ?_
        obtain ⟨Â,U,b⟩:=bind_some b
        refine pR 15 (.inr (by kernel_rfl)) (λ_ _ ag=>⟨.inr (.inr (by kernel_rfl)),⟨.inr (.inr (by kernel_rfl)),trivial⟩⟩) 0 fJ rfl rfl U g rfl wz (bT (v':=(dV (ax 0) 9 (a.1.set (0+(a.2).toNat) g))) 0 rfl (bP (by simp)) (bT (v':=(dV (ax 0) 9 (a.1.set (0+(a.2).toNat) g))) 37 rfl (bP (by simp)) (bT (v':=(dV (ax 0) 9 (a.1.set (0+(a.2).toNat) g))) 39 rfl (bP (by simp)) (bT (v':=(dV (ax 0) 9 (a.1.set (0+(a.2).toNat) g))) 42 rfl (bP (by simp)) (bT (v':=(dV (ax 0) 9 (a.1.set (0+(a.2).toNat) g))) 47 rfl (bP (by simp)) ?_)))))
        obtain ⟨_,I,b⟩:=bind_some b
        refine iZ mH rfl rfl (gN I) (dP I) wz ?_
        obtain ⟨Ã,W,b⟩:=bind_some b
        refine pR 17 (.inr (by kernel_rfl)) (λ_ _ ag=>⟨.inr (.inr (by kernel_rfl)),⟨.inr (.inr (by kernel_rfl)),⟨.inr (.inr (by kernel_rfl)),trivial⟩⟩⟩) 0 fJ rfl rfl W i rfl wz (bT (v':=(dV (ax 0) 9 ((a.1.set (0+(a.2).toNat) g).set (0+((w64 (a.2-1))).toNat) i))) 0 rfl (bP (by simp)) (bT (v':=(dV (ax 0) 9 ((a.1.set (0+(a.2).toNat) g).set (0+((w64 (a.2-1))).toNat) i))) 37 rfl (bP (by simp)) (bT (v':=(dV (ax 0) 9 ((a.1.set (0+(a.2).toNat) g).set (0+((w64 (a.2-1))).toNat) i))) 39 rfl (bP (by simp)) (bT (v':=(dV (ax 0) 9 ((a.1.set (0+(a.2).toNat) g).set (0+((w64 (a.2-1))).toNat) i))) 42 rfl (bP (by simp)) (bT (v':=(dV (ax 0) 9 ((a.1.set (0+(a.2).toNat) g).set (0+((w64 (a.2-1))).toNat) i))) 47 rfl (bP (by simp)) (ah (au (aa (vI a.2) (aa (vI (w64 (a.2-1))) (aa (vI (w64 (a.2-1))) (ah ?_)))))))))))
        obtain rfl:=ae b
        exact aV (t,(((a.1.set (0+(a.2).toNat) g).set (0+((w64 (a.2-1))).toNat) i),(w64 (a.2-1)))) m (ls_ _) rfl (aG rfl)
       ·refine ay rfl x (aX ?_)
        obtain rfl:=ae b
        obtain rfl:=ae m
        exact aU ((a.1,a.2)) rfl rfl (aG rfl)
    ·rintro a A K B q n
     subst A
     refine aN _ q n (au (aa (vI c.2) (aa (vI (w64 (c.2+1))) (aa (vI (w64 (c.2+1))) (ah ?_)))))
     obtain rfl:=ae j
     exact aV (u,(a.1,(w64 (c.2+1)))) l (ls_ _) rfl (aG rfl)
   ·refine ay rfl v (aX ?_)
    obtain rfl:=ae j
    obtain rfl:=ae l
    exact aU ((c.1,c.2)) rfl rfl (aG rfl)
 ·rintro c A K B q n
  subst A
  show pI _ _ _ _ _ _ _ _
  obtain rfl:=ae p
  exact nV (H0:=([((ax 0),gB 9 Alert.encW c.1)]:Hp)) (sl':=envS []) n (uY (bs:=([]:List Box)) (os:=([]:List Box)) (xs:=k) (o:=gB 9 Alert.encW c.1) (.inl rfl) [] trivial rfl rfl rfl rfl rfl (by kernel_rfl) jN rfl)
theorem o6 {a:(List Alert)} {c:Int} {d:Int} {e:Int} {r:(List Alert)} (f:iV a c d e=some r) :
  FnM Tryz.prog 64 [(dV (ax 0) 9 a),(vI c),(vI d),(vI e),(.fn 35 [])] (([]:List Box)++gI 9 Alert.encW a) (.tup []) (([]:List Box).map some++gT a (gB 9 Alert.encW r)):=by
 refine FnM.of_wHv ⟨Tryz.prog,148,[],[]⟩ rfl Tryz.func64 rfl rfl (lb_ rfl) (by kernel_rfl) ?_
 unfold iV at f
 refine ai (aa (vB true) (ah (ai (aa (vB true) (ah ?_)))))
 obtain ⟨v,m,f⟩:=bind_some f
 obtain ⟨u,m⟩:=dF m
 refine eU (λ(j:Unit)=>[]) (λ(j:Unit)=>[((ax 0),gB 9 Alert.encW a)]) (λ(n:Nat)=>(λ(j:Unit)=>[(0,(dV (ax 0) 9 a)),(1,(vI c)),(2,(vI d)),(3,(vI e)),(4,(.fn 35 [])),(10,(vB true)),(11,(vB true))])) (λs=>ic d c a e s) v u () m rfl (aG rfl) ?_ ?_
 ·rintro ⟨n,j⟩ g
  dsimp only at g
  cases n with
  | zero=>cases g
  | succ n =>
   obtain ⟨x,b,g⟩:=bind_some g
   unfold ic at b
   refine aK (ai (aa (vI d) (aa (vI c) (aa (vI (w64 (d-c))) (aa (vI (w64 (d-c))) (ah (ak (ai (aa (vI (w64 (d-c))) (aa (vB (decide ((w64 (d-c))<=12))) (ah ?_)))))))))))
   rcases aj b with⟨k,b⟩|⟨k,b⟩
   ·refine aA rfl k (ai (aa (dV (ax 0) 9 a) (aa (vI c) (aa (vI d) (aa (.fn 35 []) ?_)))))
    obtain ⟨i,t,b⟩:=bind_some b
    obtain ⟨_,h,b⟩:=bind_some b
    replace h:=jQ h
    refine kC 0 [] 0 0 il ft (mG t) rfl hb97 rfl rfl rfl (by kernel_rfl) rfl (.inr (.inl rfl)) rfl (by kernel_rfl) (by kernel_rfl) (by kernel_rfl) (by kernel_rfl) rfl (by decide) (by kernel_rfl) jN (tV h) wz ([((ax 0),gB 9 Alert.encW i)]:Hp) (by kernel_rfl) (bT (v':=(dV (ax 0) 9 i)) 0 rfl (bP h.symm) (bT (v':=(dV (ax 0) 9 i)) 26 rfl (bP h.symm) (ah ?_)))
    obtain rfl:=ae b
    obtain rfl:=ae g
    obtain rfl:=ae f
    exact aB (uY (bs:=([]:List Box)) (os:=([]:List Box)) (xs:=a) (o:=gB 9 Alert.encW i) (.inr rfl) [] trivial rfl rfl rfl rfl rfl (by kernel_rfl) jN rfl)
   ·refine ay rfl k (av (ak (ai (aa (vI e) (aa (vB (e==0)) (ah ?_))))))
    rcases aj b with⟨l,b⟩|⟨l,b⟩
    ·refine aA rfl l (ai (aa (dV (ax 0) 9 a) (aa (vI c) (aa (vI d) (aa (.fn 35 []) ?_)))))
     cases b
    ·refine ay rfl l (av (ak (ai (aa (vB true) (aa (vB false) (ah (ay rfl rfl (av (ai (aa (dV (ax 0) 9 a) (aa (vI c) (aa (vI d) (aa (.fn 35 []) ?_)))))))))))))
     cases b
 ·rintro j p z w y q
  subst p
  show pI _ _ _ _ _ _ _ _
  obtain rfl:=ae f
  exact nV (H0:=([((ax 0),gB 9 Alert.encW a)]:Hp)) (sl':=envS []) q (uY (bs:=([]:List Box)) (os:=([]:List Box)) (xs:=a) (o:=gB 9 Alert.encW a) (.inl rfl) [] trivial rfl rfl rfl rfl rfl (by kernel_rfl) jN rfl)
theorem nz {a:(List Alert)} {r:(List Alert)} (b:dX a=some r) :
  FnM Tryz.prog 27 [(dV (ax 0) 9 a),(.fn 35 [])] (([]:List Box)++gI 9 Alert.encW a) (.tup []) (([]:List Box).map some++gT a (gB 9 Alert.encW r)):=by
 refine FnM.of_wHv ⟨Tryz.prog,14,[],[]⟩ rfl Tryz.func27 rfl rfl (lb_ rfl) (by kernel_rfl) ?_
 unfold dX at b
 refine ai (aa (dV (ax 0) 9 a) (wZ uS rfl wz (aa (vI (a.length:Int)) (ah (au (aa (dV (ax 0) 9 a) (aa (vI (a.length:Int)) (aa (vI (a.length:Int)) (zH un3 JO rfl wz ?_)))))))))
 obtain ⟨g,e,b⟩:=bind_some b
 refine aD (o9 e) rfl hb65 rfl rfl rfl rfl wz (aa (.fn 35 []) ?_)
 obtain ⟨d,f,b⟩:=bind_some b
 obtain ⟨_,c,b⟩:=bind_some b
 replace c:=jQ c
 refine kC 0 [] 0 0 il ft (o6 f) rfl hb64 rfl rfl rfl (by kernel_rfl) rfl (.inr (.inl rfl)) rfl (by kernel_rfl) (by kernel_rfl) (by kernel_rfl) (by kernel_rfl) rfl (by decide) (by kernel_rfl) jN (tV c) wz ([((ax 0),gB 9 Alert.encW d)]:Hp) (by kernel_rfl) (bT (v':=(dV (ax 0) 9 d)) 0 rfl (bP c.symm) (bT (v':=(dV (ax 0) 9 d)) 5 rfl (bP c.symm) (bT (v':=(dV (ax 0) 9 d)) 7 rfl (bP c.symm) (ah ?_))))
 show pI _ _ _ _ _ _ _ _
 obtain rfl:=ae b
 exact uY (bs:=([]:List Box)) (os:=([]:List Box)) (xs:=a) (o:=gB 9 Alert.encW d) (.inl rfl) [] trivial rfl rfl rfl rfl rfl (by kernel_rfl) jN rfl
theorem xO {a:(List ByteArray)} {r:Unit} (g:lD a=some r) :
  FnM Tryz.prog 8 [(.d (.wild 1 a.length))] [] (.tup []) []:=by
 refine FnM.of_wH ⟨Tryz.prog,14,[],[]⟩ rfl Tryz.func8 rfl rfl (lb_ rfl) (by kernel_rfl) ?_
 unfold lD at g
 refine ai (aa (vS (⟨#[]⟩:ByteArray)) (ah (ai (aa (.d (.wild 1 a.length)) (GH wY rfl wz (aa (vI 0) (ah ?_)))))))
 obtain ⟨p,i,g⟩:=bind_some g
 obtain ⟨m,i⟩:=aS i
 refine bH (λ(f:Unit)=>[]) (λ(f:Unit)=>[]) (λ(b:Nat)=>(λ(f:Unit)=>[(0,(.d (.wild 1 a.length))),(2,(vS (⟨#[]⟩:ByteArray))),(5,(vI (a.length:Int))),(6,(vI (b:Int)))])) (λk x s=>jU a k x s) p (List.range ((a.length:Int)).toNat) () i rfl (aG rfl) ?_ ?_
 ·rintro ⟨b,j,f⟩ ⟨e,c⟩
  dsimp only at e c
  cases j with
  | nil =>
   obtain rfl:=ae e
   refine ai (aa (vB (decide ((b:Int)<(a.length:Int)))) (ah ?_))
   refine ak (ay rfl (mg c) (aX ?_))
   exact aU (f) rfl rfl (aG rfl)
  | cons w j =>
   obtain ⟨t,h,e⟩:=bind_some e
   refine ai (aa (vB (decide ((b:Int)<(a.length:Int)))) (ah ?_))
   refine ak (aA rfl (kR c) (av ?_))
   unfold jU at h
   refine ak (aK (ai (aa (vI (b:Int)) (aa (vI (b:Int)) (ah (au (aa (.d (.wild 1 a.length)) (aa (vI (b:Int)) (aa (vS (⟨#[]⟩:ByteArray)) ?_)))))))))
   obtain ⟨_,l,h⟩:=bind_some h
   refine OH qo rfl rfl (gN l) (dP l) wz (PG sz9 rfl rfl wz (ah (au (dx (ma c m) wz rfl (aa (vI ((b+1:Nat):Int)) (ah ?_))))))
   obtain rfl:=ae h
   exact aV (b+1,j,()) ⟨e,aP c⟩ (ls_ _) rfl (aG rfl)
 ·rintro f n v q u o
  subst n
  show pI _ _ _ _ _ _ _ _
  obtain rfl:=ae g
  exact nV (H0:=([]:Hp)) (sl':=envS []) o (O3 [] trivial (.inl rfl))
theorem wJ {a:(List Rect)} {r:Unit} (g:kz a=some r) :
  FnM Tryz.prog 9 [(.d (.wild 4 a.length))] [] (.tup []) []:=by
 refine FnM.of_wH ⟨Tryz.prog,14,[],[]⟩ rfl Tryz.func9 rfl rfl (lb_ rfl) (by kernel_rfl) ?_
 unfold kz at g
 refine ai (bZ 0 (.inl rfl) z42 rfl wz (λl=>ah (ai (aa (.d (.wild 4 a.length)) (GH yP rfl wz (aa (vI 0) (ah ?_)))))))
 obtain ⟨q,i,g⟩:=bind_some g
 obtain ⟨n,i⟩:=aS i
 refine bH (λ(f:Unit)=>[]) (λ(f:Unit)=>[(l,some (.cells 4 [(vI 0),(vI 0),(vI 0),(vI 0)]))]) (λ(b:Nat)=>(λ(f:Unit)=>[(0,(.d (.wild 4 a.length))),(2,(.ref l 0 0)),(5,(vI (a.length:Int))),(6,(vI (b:Int)))])) (λk x s=>jq a k x s) q (List.range ((a.length:Int)).toNat) () i rfl (aG rfl) ?_ ?_
 ·rintro ⟨b,j,f⟩ ⟨e,c⟩
  dsimp only at e c
  cases j with
  | nil =>
   obtain rfl:=ae e
   refine ai (aa (vB (decide ((b:Int)<(a.length:Int)))) (ah ?_))
   refine ak (ay rfl (mg c) (aX ?_))
   exact aU (f) rfl rfl (aG rfl)
  | cons y j =>
   obtain ⟨u,h,e⟩:=bind_some e
   refine ai (aa (vB (decide ((b:Int)<(a.length:Int)))) (ah ?_))
   refine ak (aA rfl (kR c) (av ?_))
   unfold jq at h
   refine ak (aK (ai (aa (vI (b:Int)) (aa (vI (b:Int)) (ah (au (aa (.d (.wild 4 a.length)) (aa (vI (b:Int)) (aC 0 0 il ft rV Ed rfl rfl (.d (.agg (Rect.enc (⟨0,0,0,0⟩:Rect)))) rfl wz ?_)))))))))
   obtain ⟨_,m,h⟩:=bind_some h
   refine OH BC rfl rfl (gN m) (dP m) wz (PG rV rfl rfl wz (ah (au (dx (ma c n) wz rfl (aa (vI ((b+1:Nat):Int)) (ah ?_))))))
   obtain rfl:=ae h
   exact aV (b+1,j,()) ⟨e,aP c⟩ (ls_ _) rfl (aG rfl)
 ·rintro f o w t v p
  subst o
  show pI _ _ _ _ _ _ _ _
  obtain rfl:=ae g
  exact nV (H0:=([(l,some (.cells 4 [(vI 0),(vI 0),(vI 0),(vI 0)]))]:Hp)) (sl':=envS []) p (O3 [] trivial (.inl rfl))
theorem FL {g:(List Alert)} {h:(List Alert)} {r:(List Alert)×Int} (c:qK g h=some r) :
  FnM Tryz.prog 7 [(vL Alert.enc g),(vL Alert.enc h)] [] (wL [.int .i64 r.2] (gV (ax 0) 9 r.1)) (([]:List Box).map some++gO 9 Alert.encW r.1):=by
 refine FnM.of_wH ⟨Tryz.prog,68,[],[]⟩ rfl Tryz.func7 rfl rfl (lb_ rfl) (by kernel_rfl) ?_
 unfold qK at c
 refine ai (aa .nil (aa (vI 0) (ah (ak (ai (aa (vL Alert.enc g) (aa (vL Alert.enc h) (aJ (.d (.agg [dl Alert.enc g,dl Alert.enc h])) wz (by kernel_rfl) (aa (vI 0) (ah ?_))))))))))
 obtain ⟨È,J,c⟩:=bind_some c
 obtain ⟨Z,J⟩:=aS J
 refine bH (λ(C:Unit)=>[(0,(vL Alert.enc g)),(1,(vL Alert.enc h))]) (λ(C:Unit)=>[]) (λ(t:Nat)=>(λ(C:Unit)=>[(0,(vL Alert.enc g)),(1,(vL Alert.enc h)),(17,(.d (.agg [dl Alert.enc g,dl Alert.enc h]))),(18,(vI (t:Int)))])) (λk x s=>jO g h k x s) È (List.range (2:Int).toNat) () J rfl (aG rfl) ?_ ?_
 ·rintro ⟨t,P,C⟩ ⟨o,A⟩
  dsimp only at o A
  cases P with
  | nil =>
   obtain rfl:=ae o
   refine ai (aa (vB (decide ((t:Int)<2))) (ah ?_))
   refine ak (ay rfl (mg A) (aX ?_))
   exact aU (C) rfl rfl (aG rfl)
  | cons Ñ P =>
   obtain ⟨Y,j,o⟩:=bind_some o
   refine ai (aa (vB (decide ((t:Int)<2))) (ah ?_))
   refine ak (aA rfl (kR A) (av ?_))
   unfold jO at j
   refine ak (aK (ai ?_))
   obtain ⟨Q,Å,j⟩:=bind_some j
   refine Tg (enc:=(eL Alert.enc)) (xs:=([g,h]:List (List Alert))) un79 sz26 ag26 rfl rfl rfl rfl Å (λ_=>rfl) (.inr rfl) (vL Alert.enc Q) rfl wz (aa (vL Alert.enc Q) (ah (ai (aa (vL Alert.enc Q) ?_))))
   obtain ⟨w,À,j⟩:=bind_some j
   refine aD (tJ À) rfl hb31 rfl rfl rfl rfl wz (aa (vI w) (ah (ai (aa (vI w) (aa (vB (w != 0)) (ah ?_))))))
   rcases aj j with⟨F,j⟩|⟨F,j⟩
   ·refine aA rfl F (ai (aa (vI w) (aa .nil (aa (vI w) (ah (jl (λÌ => ?_)))))))
    obtain rfl:=ae j
    obtain rfl:=ae o
    obtain rfl:=ae c
    exact aB (Bo (outs:=([]:List Box)) [.int .i64 w] (.inr rfl) 0 rfl ⟨rfl,trivial⟩ rfl rfl (by kernel_rfl) (by kernel_rfl))
   ·refine ay rfl F (av (au (dx (ma A Z) wz rfl (aa (vI ((t+1:Nat):Int)) (ah ?_)))))
    obtain rfl:=ae j
    exact aV (t+1,P,()) ⟨o,aP A⟩ (ls_ _) rfl (aG rfl)
 ·rintro C L Ë X M O
  subst L
  refine aN _ M O (ai (J2 0 (.inl rfl) wz (λu=>Lh (b':=some (bM D.str (λx=>D.agg (Alert.enc x)) ([]:List (ByteArray×Alert)))) 0 rfl rfl (aa (.map u) (ah (ai (aa .nil (ah (ak (ai (aa (vL Alert.enc g) (aa (vL Alert.enc h) (dW (([g,h]:List (List Alert)).map (eL Alert.enc)) Tq ez132 rfl rfl rfl rfl rfl wz ?_)))))))))))))
  obtain ⟨B,Á,c⟩:=bind_some c
  refine aD (pU Á) rfl hb32 rfl rfl rfl rfl wz (bJ uS rfl wz (aa (vI 0) (ah (jl (λÇ => ?_)))))
  obtain ⟨É,K,c⟩:=bind_some c
  obtain ⟨T,K⟩:=aS K
  refine gq (σ:=(List (ByteArray×Alert))×(List Alert)) (N:=Nm) (λp=>(λ(a:(List (ByteArray×Alert))×(List Alert)) (e:Nm)=>([(10,(gV e 9 a.2))]:SL_)) p.1 p.2) (λp=>(λ(a:(List (ByteArray×Alert))×(List Alert)) (e:Nm)=>([(u,some (bM D.str (λx=>D.agg (Alert.enc x)) a.1)),(e,gB 9 Alert.encW a.2)]:Hp)) p.1 p.2) (λ(m:Nat)=>(λp=>(λ(a:(List (ByteArray×Alert))×(List Alert)) (e:Nm)=>([(9,(.map u)),(10,(gV e 9 a.2)),(31,(vL Alert.enc B)),(32,(vI (B.length:Int))),(33,(vI (m:Int)))]:SL_)) p.1 p.2)) (λk x s=>kJ k x s) É B ((([]:List (ByteArray×Alert)),([]:List Alert)),Ç) K rfl (aG rfl) ?_ ?_
  ·rintro ⟨m,E,a,e⟩ ⟨n,l⟩
   dsimp only at n l
   cases E with
   | nil =>
    obtain rfl:=ae n
    refine ai (aa (vB (decide ((m:Int)<(B.length:Int)))) (ah ?_))
    refine ak (ay rfl (drop_nil l) (aX ?_))
    exact aU (a,e) rfl rfl (aG rfl)
   | cons b E =>
    obtain ⟨Y,f,n⟩:=bind_some n
    refine ai (aa (vB (decide ((m:Int)<(B.length:Int)))) (ah ?_))
    refine ak (aA rfl (aZ l) (av ?_))
    unfold kJ at f
    refine ak (aK (ai (dK mH rfl rfl (bz l) rfl wz (bK fJ jZ rfl (.d (.agg (Alert.enc b))) rfl wz (bZ 0 (.inl rfl) z39 rfl wz (λÍ=>gp 0 il ft 2 fJ rfl rfl (Alert.v b) rfl wz (ah (ai (aa (.map u) (aH kZ rfl 0 rfl wz (aC 0 2 il ft sz9 ag9 rfl rfl (vS b.Id) rfl wz (Dc (eq:=eqS) (kD:=D.str) (vD:=(λx=>D.agg (Alert.enc x))) (es:=a.1) (k:=b.Id) (z:=(⟨(⟨#[]⟩:ByteArray),(⟨#[]⟩:ByteArray),0,([]:List ByteArray),0,0,0,([]:List Rect),(⟨#[]⟩:ByteArray)⟩:Alert)) 0 0 il ft (λ_ _=>rfl) mt81 (by kernel_rfl) (by kernel_rfl) rfl rfl rfl (.tup [(.d (.agg (Alert.enc ((mGet eqS a.1 b.Id).getD (⟨(⟨#[]⟩:ByteArray),(⟨#[]⟩:ByteArray),0,([]:List ByteArray),0,0,0,([]:List Rect),(⟨#[]⟩:ByteArray)⟩:Alert))))),(vB ((mGet eqS a.1 b.Id).isSome))]) rfl wz (aa (.tup [(.d (.agg (Alert.enc ((mGet eqS a.1 b.Id).getD (⟨(⟨#[]⟩:ByteArray),(⟨#[]⟩:ByteArray),0,([]:List ByteArray),0,0,0,([]:List Rect),(⟨#[]⟩:ByteArray)⟩:Alert))))),(vB ((mGet eqS a.1 b.Id).isSome))]) (aa (.d (.agg (Alert.enc ((mGet eqS a.1 b.Id).getD (⟨(⟨#[]⟩:ByteArray),(⟨#[]⟩:ByteArray),0,([]:List ByteArray),0,0,0,([]:List Rect),(⟨#[]⟩:ByteArray)⟩:Alert))))) (aa (vB ((mGet eqS a.1 b.Id).isSome)) (bZ 0 (.inl rfl) z39 rfl wz (λÎ=>gp 0 il ft 3 fJ rfl rfl [(vS (((mGet eqS a.1 b.Id).getD (⟨(⟨#[]⟩:ByteArray),(⟨#[]⟩:ByteArray),0,([]:List ByteArray),0,0,0,([]:List Rect),(⟨#[]⟩:ByteArray)⟩:Alert)).Id)),(vS (((mGet eqS a.1 b.Id).getD (⟨(⟨#[]⟩:ByteArray),(⟨#[]⟩:ByteArray),0,([]:List ByteArray),0,0,0,([]:List Rect),(⟨#[]⟩:ByteArray)⟩:Alert)).Sender)),(vI (((mGet eqS a.1 b.Id).getD (⟨(⟨#[]⟩:ByteArray),(⟨#[]⟩:ByteArray),0,([]:List ByteArray),0,0,0,([]:List Rect),(⟨#[]⟩:ByteArray)⟩:Alert)).Kind)),(vL eS (((mGet eqS a.1 b.Id).getD (⟨(⟨#[]⟩:ByteArray),(⟨#[]⟩:ByteArray),0,([]:List ByteArray),0,0,0,([]:List Rect),(⟨#[]⟩:ByteArray)⟩:Alert)).Refs)),(vI (((mGet eqS a.1 b.Id).getD (⟨(⟨#[]⟩:ByteArray),(⟨#[]⟩:ByteArray),0,([]:List ByteArray),0,0,0,([]:List Rect),(⟨#[]⟩:ByteArray)⟩:Alert)).At)),(vI (((mGet eqS a.1 b.Id).getD (⟨(⟨#[]⟩:ByteArray),(⟨#[]⟩:ByteArray),0,([]:List ByteArray),0,0,0,([]:List Rect),(⟨#[]⟩:ByteArray)⟩:Alert)).Until)),(vI (((mGet eqS a.1 b.Id).getD (⟨(⟨#[]⟩:ByteArray),(⟨#[]⟩:ByteArray),0,([]:List ByteArray),0,0,0,([]:List Rect),(⟨#[]⟩:ByteArray)⟩:Alert)).Weight)),(vL Rect.enc (((mGet eqS a.1 b.Id).getD (⟨(⟨#[]⟩:ByteArray),(⟨#[]⟩:ByteArray),0,([]:List ByteArray),0,0,0,([]:List Rect),(⟨#[]⟩:ByteArray)⟩:Alert)).Areas)),(vS (((mGet eqS a.1 b.Id).getD (⟨(⟨#[]⟩:ByteArray),(⟨#[]⟩:ByteArray),0,([]:List ByteArray),0,0,0,([]:List Rect),(⟨#[]⟩:ByteArray)⟩:Alert)).Text))] rfl wz (aa (vB ((mGet eqS a.1 b.Id).isSome)) (ah (aK (ai (aa (vB ((mGet eqS a.1 b.Id).isSome)) (aa (vB (!((mGet eqS a.1 b.Id).isSome))) ?_)))))))))))))))))))))))
    refine aa (vB (!((mGet eqS a.1 b.Id).isSome))) (ah ?_)
    rcases aj f with⟨G,f⟩|⟨G,f⟩
    ·refine aA rfl G (ai (aa (.map u) (aH kZ rfl 0 rfl wz (aC 0 2 il ft sz9 ag9 rfl rfl (vS b.Id) rfl wz (aC 0 2 il ft fJ jZ rfl rfl (.d (.agg (Alert.enc b))) rfl wz (Ir (eq:=eqS) (kD:=D.str) (vD:=(λx=>D.agg (Alert.enc x))) (es:=a.1) (k:=b.Id) (v:=b) 0 0 il ft (λ_ _=>rfl) mt81 (by kernel_rfl) rfl rfl rfl rfl wz (ah (au (aa (gV e 9 a.2) (aC 0 2 il ft fJ jZ rfl rfl (.d (.agg (Alert.enc b))) rfl wz ?_))))))))))
     obtain ⟨Ê,Â,f⟩:=bind_some f
     refine aD (Iw Â) rfl hb33 rfl rfl rfl rfl wz (dW (([Ê]:List Alert).map Alert.encW) mH Qv rfl rfl rfl rfl rfl wz ?_)
     obtain ⟨R,Æ,f⟩:=bind_some f
     refine lh 0 il ft (i:=1) Ik Ik fJ z39 rfl (by decide) QQ (by decide) (λ_=>rfl) rfl rfl rfl Æ wz (λU=>aa (gV U 9 R) (ah (au (dx (bf l T) wz rfl (aa (vI ((m+1:Nat):Int)) (ah ?_))))))
     obtain rfl:=ae f
     exact aV (m+1,E,((zY eqS a.1 b.Id b),R),U) ⟨n,aP l⟩ (ls_ _) rfl (aG rfl)
    ·refine ay rfl G (ai (aC 0 3 il ft fJ jZ rfl rfl (.d (.agg (Alert.enc ((mGet eqS a.1 b.Id).getD (⟨(⟨#[]⟩:ByteArray),(⟨#[]⟩:ByteArray),0,([]:List ByteArray),0,0,0,([]:List Rect),(⟨#[]⟩:ByteArray)⟩:Alert))))) rfl wz (aC 0 2 il ft fJ jZ rfl rfl (.d (.agg (Alert.enc b))) rfl wz ?_)))
     obtain ⟨W,Ã,f⟩:=bind_some f
     refine aD (IQ Ã) rfl hb34 rfl rfl rfl rfl wz (aa (vB (!W)) (aa (vB (!W)) (ah ?_)))
     rcases aj f with⟨H,f⟩|⟨H,f⟩
     ·refine aA rfl H (ai (aa .nil (aa (vI 13) (ah (jl (λÏ => ?_))))))
      obtain rfl:=ae f
      obtain rfl:=ae n
      obtain rfl:=ae c
      exact aB (Bo (outs:=([]:List Box)) [.int .i64 13] (.inr rfl) 4 rfl ⟨rfl,trivial⟩ rfl rfl (by kernel_rfl) (by kernel_rfl))
     ·refine ay rfl H (av (au (dx (bf l T) wz rfl (aa (vI ((m+1:Nat):Int)) (ah ?_)))))
      obtain rfl:=ae f
      exact aV (m+1,E,(a.1,a.2),e) ⟨n,aP l⟩ (ls_ _) rfl (aG rfl)
  ·rintro ⟨a,e⟩ L Ë X M O
   subst L
   refine aN _ M O (ak (ai (aa (gV e 9 a.2) (zG uS rfl wz (aa (vB (decide ((a.2.length:Int)>300))) (ah ?_))))))
   rcases aj c with⟨I,c⟩|⟨I,c⟩
   ·refine aA rfl I (ai (aa .nil (aa (vI 2) (ah (jl (λÐ => ?_))))))
    obtain rfl:=ae c
    exact aB (Bo (outs:=([]:List Box)) [.int .i64 2] (.inr rfl) 2 rfl ⟨rfl,trivial⟩ rfl rfl (by kernel_rfl) (by kernel_rfl))
   ·refine ay rfl I (av (ai (aa (gV e 9 a.2) ?_)))
    obtain ⟨y,Ä,c⟩:=bind_some c
    obtain ⟨_,q,c⟩:=bind_some c
    replace q:=jQ q
    refine kC 0 [] 1 0 il ft (nz Ä) rfl hb27 rfl rfl rfl (by kernel_rfl) rfl (.inl rfl) rfl (by kernel_rfl) (by kernel_rfl) (by kernel_rfl) (by kernel_rfl) rfl (by decide) (by kernel_rfl) jN (tV q) wz ([(u,some (bM D.str (λx=>D.agg (Alert.enc x)) a.1)),(e,gB 9 Alert.encW y)]:Hp) (by kernel_rfl) (bT (v':=(gV e 9 y)) 10 rfl (fC q.symm) (bT (v':=(gV e 9 y)) 62 rfl (fC q.symm) (bT (v':=(gV e 9 y)) 65 rfl (fC q.symm) (ah (ai (aa (gV e 9 y) (aa (gV e 9 y) (aa (vI 0) (ah ?_)))))))))
    obtain rfl:=ae c
    exact aB (Bo (outs:=([]:List Box)) [.int .i64 0] (.inr rfl) 1 rfl ⟨rfl,trivial⟩ rfl rfl (by kernel_rfl) (by kernel_rfl))
theorem vP {a:(List Alert)} {r:Unit} (g:jS a=some r) :
  FnM Tryz.prog 10 [(.d (.wild 9 a.length))] [] (.tup []) []:=by
 refine FnM.of_wH ⟨Tryz.prog,14,[],[]⟩ rfl Tryz.func10 rfl rfl (lb_ rfl) (by kernel_rfl) ?_
 unfold jS at g
 refine ai (bZ 0 (.inl rfl) z39 rfl wz (λl=>ah (ai (aa (.d (.wild 9 a.length)) (GH uS rfl wz (aa (vI 0) (ah ?_)))))))
 obtain ⟨q,i,g⟩:=bind_some g
 obtain ⟨n,i⟩:=aS i
 refine bH (λ(f:Unit)=>[]) (λ(f:Unit)=>[(l,some (.cells 9 [(vS (⟨#[]⟩:ByteArray)),(vS (⟨#[]⟩:ByteArray)),(vI 0),.nil,(vI 0),(vI 0),(vI 0),.nil,(vS (⟨#[]⟩:ByteArray))]))]) (λ(b:Nat)=>(λ(f:Unit)=>[(0,(.d (.wild 9 a.length))),(2,(.ref l 0 0)),(5,(vI (a.length:Int))),(6,(vI (b:Int)))])) (λk x s=>jc a k x s) q (List.range ((a.length:Int)).toNat) () i rfl (aG rfl) ?_ ?_
 ·rintro ⟨b,j,f⟩ ⟨e,c⟩
  dsimp only at e c
  cases j with
  | nil =>
   obtain rfl:=ae e
   refine ai (aa (vB (decide ((b:Int)<(a.length:Int)))) (ah ?_))
   refine ak (ay rfl (mg c) (aX ?_))
   exact aU (f) rfl rfl (aG rfl)
  | cons y j =>
   obtain ⟨u,h,e⟩:=bind_some e
   refine ai (aa (vB (decide ((b:Int)<(a.length:Int)))) (ah ?_))
   refine ak (aA rfl (kR c) (av ?_))
   unfold jc at h
   refine ak (aK (ai (aa (vI (b:Int)) (aa (vI (b:Int)) (ah (au (aa (.d (.wild 9 a.length)) (aa (vI (b:Int)) (aC 0 0 il ft fJ jZ rfl rfl (.agg [(vS (⟨#[]⟩:ByteArray)),(vS (⟨#[]⟩:ByteArray)),(vI 0),.nil,(vI 0),(vI 0),(vI 0),.nil,(vS (⟨#[]⟩:ByteArray))]) rfl wz ?_)))))))))
   obtain ⟨_,m,h⟩:=bind_some h
   refine OH mH rfl rfl (gN m) (dP m) wz (PG fJ rfl rfl wz (ah (au (dx (ma c n) wz rfl (aa (vI ((b+1:Nat):Int)) (ah ?_))))))
   obtain rfl:=ae h
   exact aV (b+1,j,()) ⟨e,aP c⟩ (ls_ _) rfl (aG rfl)
 ·rintro f o w t v p
  subst o
  show pI _ _ _ _ _ _ _ _
  obtain rfl:=ae g
  exact nV (H0:=([(l,some (.cells 9 [(vS (⟨#[]⟩:ByteArray)),(vS (⟨#[]⟩:ByteArray)),(vI 0),.nil,(vI 0),(vI 0),(vI 0),.nil,(vS (⟨#[]⟩:ByteArray))]))]:Hp)) (sl':=envS []) p (O3 [] trivial (.inl rfl))
section
variable [dM:DM]
theorem uM {b:Bool} {r:Int} (a:mE b=some r) :
  FnM Tryz.prog 76 [(vB b)] [] (vI r) []:=by
 refine FnM.of_wH ⟨Tryz.prog,4,[],[]⟩ rfl Tryz.func76 rfl rfl (lb_ rfl) (by kernel_rfl) ?_
 unfold mE at a
 refine ai (aa (vI 0) (ah (ak (ai (aa (vB b) (ah ?_))))))
 rcases aj a with⟨c,a⟩|⟨c,a⟩
 ·refine aA rfl c (ai (aa (vI 1) (ah ?_)))
  obtain rfl:=ae a
  exact aB (aM [(vI 1)] ⟨rfl,trivial⟩)
 ·refine ay rfl c (av (ai (aa (vI 0) (ah ?_))))
  obtain rfl:=ae a
  exact aB (aM [(vI 0)] ⟨rfl,trivial⟩)
end
section
variable [dM:DM]
theorem lQ {b:Receipt} {c:Receipt} {r:Int} (a:eG b c=some r) :
  FnM Tryz.prog 41 [(.d (.agg (Receipt.enc b))),(.d (.agg (Receipt.enc c)))] [] (vI r) []:=by
 refine FnM.of_wH ⟨Tryz.prog,24,[],[]⟩ rfl Tryz.func41 rfl rfl (lb_ rfl) (by kernel_rfl) ?_
 unfold eG at a
 refine ai (eT 0 (.inl rfl) (Receipt.v b) rfl rfl wz (λo=>eT 0 (.inl rfl) (Receipt.v c) rfl rfl wz (λp=>aa (vI 0) (ah (ak (bv (aH EG rfl 0 rfl wz (aC 1 0 (.inr (by kernel_rfl)) (λ_ _ ag=>trivial) sz9 ag9 rfl rfl (vS b.Player) rfl wz (aH EG rfl 0 rfl wz (aC 3 1 (.inr (by kernel_rfl)) (λ_ _ ag=>⟨.inl ⟨rfl,rfl⟩,trivial⟩) sz9 ag9 rfl rfl (vS c.Player) rfl wz ?_))))))))))
 obtain ⟨m,j,a⟩:=bind_some a
 refine aD (gL j) rfl LJ rfl rfl rfl rfl wz (aH Es rfl 1 rfl wz (aC 6 0 (.inr (by kernel_rfl)) (λ_ _ ag=>⟨.inl ⟨rfl,rfl⟩,⟨.inl ⟨rfl,rfl⟩,trivial⟩⟩) sz9 ag9 rfl rfl (vS b.Alert) rfl wz (aH Es rfl 1 rfl wz (aC 8 1 (.inr (by kernel_rfl)) (λ_ _ ag=>⟨.inl ⟨rfl,rfl⟩,⟨.inl ⟨rfl,rfl⟩,⟨.inl ⟨rfl,rfl⟩,trivial⟩⟩⟩) sz9 ag9 rfl rfl (vS c.Alert) rfl wz ?_))))
 obtain ⟨n,k,a⟩:=bind_some a
 refine aD (gL k) rfl LJ rfl rfl rfl rfl wz (aH Ru rfl 3 rfl wz (aC 11 0 (.inr (by kernel_rfl)) (λ_ _ ag=>⟨.inl ⟨rfl,rfl⟩,⟨.inl ⟨rfl,rfl⟩,⟨.inl ⟨rfl,rfl⟩,⟨.inl ⟨rfl,rfl⟩,trivial⟩⟩⟩⟩) sz4 ag4 rfl rfl (vB b.Seen) rfl wz ?_))
 obtain ⟨s,f,a⟩:=bind_some a
 refine aD (uM f) rfl hb76 rfl rfl rfl rfl wz (aH Ru rfl 3 rfl wz (aC 14 1 (.inr (by kernel_rfl)) (λ_ _ ag=>⟨.inl ⟨rfl,rfl⟩,⟨.inl ⟨rfl,rfl⟩,⟨.inl ⟨rfl,rfl⟩,⟨.inl ⟨rfl,rfl⟩,⟨.inl ⟨rfl,rfl⟩,trivial⟩⟩⟩⟩⟩) sz4 ag4 rfl rfl (vB c.Seen) rfl wz ?_))
 obtain ⟨q,g,a⟩:=bind_some a
 refine aD (uM g) rfl hb76 rfl rfl rfl rfl wz ?_
 obtain ⟨l,h,a⟩:=bind_some a
 refine aD (iT h) rfl Oa rfl rfl rfl rfl wz (dW (([m,n,l]:List Int).map eI) nZ BI rfl rfl rfl rfl rfl wz ?_)
 obtain ⟨e,i,a⟩:=bind_some a
 refine aD (lV i) rfl Np rfl rfl rfl rfl wz (aa (vI e) (ah ?_))
 obtain rfl:=ae a
 exact aB (aM [(vI e)] ⟨rfl,trivial⟩)
end
theorem rF {b:(List Receipt)} {r:Int} (e:jh b=some r) :
  FnM Tryz.prog 36 [(vL Receipt.enc b)] [] (vI r) []:=by
 refine FnM.of_wH ⟨Tryz.prog,45,[],[]⟩ rfl Tryz.func36 rfl rfl (lb_ rfl) (by kernel_rfl) ?_
 unfold jh at e
 refine ai (aa (vI 0) (ah (ak (ai (aa (vL Receipt.enc b) (bJ xG rfl wz (aa (vB (decide ((b.length:Int)>2000))) (ah ?_))))))))
 rcases aj e with⟨p,e⟩|⟨p,e⟩
 ·refine aA rfl p (ai (aa (vI 2) (ah ?_)))
  obtain rfl:=ae e
  exact aB (aM [(vI 2)] ⟨rfl,trivial⟩)
 ·refine ay rfl p (av (ak (ai (aa (vL Receipt.enc b) (bJ xG rfl wz (aa (vI 0) (ah ?_)))))))
  obtain ⟨O,y,e⟩:=bind_some e
  obtain ⟨H,y⟩:=aS y
  refine bH (λ(n:Unit)=>[]) (λ(n:Unit)=>[]) (λ(c:Nat)=>(λ(n:Unit)=>[(0,(vL Receipt.enc b)),(8,(vL Receipt.enc b)),(9,(vI (b.length:Int))),(10,(vI (c:Int)))])) (λk x s=>gW b k x s) O b () y rfl (aG rfl) ?_ ?_
  ·rintro ⟨c,z,n⟩ ⟨h,j⟩
   dsimp only at h j
   cases z with
   | nil =>
    obtain rfl:=ae h
    refine ai (aa (vB (decide ((c:Int)<(b.length:Int)))) (ah ?_))
    refine ak (ay rfl (drop_nil j) (aX ?_))
    exact aU (n) rfl rfl (aG rfl)
   | cons i z =>
    obtain ⟨U,a,h⟩:=bind_some h
    refine ai (aa (vB (decide ((c:Int)<(b.length:Int)))) (ah ?_))
    refine ak (aA rfl (aZ j) (av ?_))
    unfold gW at a
    refine ak (aK (ai (aa (vI (c:Int)) (dK Dw rfl rfl (bz j) rfl wz (bK rP AY rfl (.d (.agg (Receipt.enc i))) rfl wz (bZ 0 (.inl rfl) z48 rfl wz (λA=>aa (vI (c:Int)) (gp 0 il ft 0 rP rfl rfl (Receipt.v i) rfl wz (ah (aK (ak ?_)))))))))))
    obtain ⟨Q,f,a⟩:=bind_some a
    refine aR [(0,(vL Receipt.enc b)),(3,(vI (c:Int))),(4,(.ref A 0 0)),(8,(vL Receipt.enc b)),(9,(vI (b.length:Int))),(10,(vI (c:Int))),(15,(vB Q))] [(A,some (.cells 4 (Receipt.v i)))] ?_ ?_
    ·refine au (aH EG rfl 0 rfl wz (aC 0 0 il ft sz9 ag9 rfl rfl (vS i.Player) rfl wz ?_))
     obtain ⟨P,J,f⟩:=bind_some f
     refine aD (gX J) rfl DY rfl rfl rfl rfl wz (aa (vB (!P)) ?_)
     rcases aj f with⟨o,f⟩|⟨o,f⟩
     ·refine aF rfl o wz (af (af (af (af (aa (vB true) (aa (vB true) (ah ?_)))))))
      obtain rfl:=ae f
      exact cu
     ·refine aF rfl o wz (aH Es rfl 1 rfl wa (aC 0 0 il ft sz9 ag9 rfl rfl (vS i.Alert) rfl wa ?_))
      obtain ⟨B,K,f⟩:=bind_some f
      refine aD (gX K) rfl DY rfl rfl rfl rfl wa (aJ (vB (!B)) wa rfl (aa (vB (!B)) (aa (vB (!B)) (ah ?_))))
      obtain rfl:=ae f
      exact cu
    ·rintro ⟨⟩ _ G E l m
     refine aN _ l m ?_
     rcases aj a with⟨q,a⟩|⟨q,a⟩
     ·refine aA rfl q (ai (aa (vI 5) (ah ?_)))
      obtain rfl:=ae a
      obtain rfl:=ae h
      obtain rfl:=ae e
      exact aB (aM [(vI 5)] ⟨rfl,trivial⟩)
     ·refine ay rfl q (ai (aH BF rfl 2 rfl wz (aC 0 0 il ft sz3 ag3 rfl rfl (vI i.At) rfl wz ?_)))
      obtain ⟨F,L,a⟩:=bind_some a
      refine aD (gM L) rfl IV rfl rfl rfl rfl wz (aa (vB (!F)) (aa (vB (!F)) (ah ?_)))
      rcases aj a with⟨t,a⟩|⟨t,a⟩
      ·refine aA rfl t (ai (aa (vI 1) (ah ?_)))
       obtain rfl:=ae a
       obtain rfl:=ae h
       obtain rfl:=ae e
       exact aB (aM [(vI 1)] ⟨rfl,trivial⟩)
      ·refine ay rfl t (ak ?_)
       obtain ⟨R,g,a⟩:=bind_some a
       refine aR [(0,(vL Receipt.enc b)),(8,(vL Receipt.enc b)),(9,(vI (b.length:Int))),(10,(vI (c:Int))),(31,(vB R))] [(A,some (.cells 4 (Receipt.v i)))] ?_ ?_
       ·refine bv (aa (vI (c:Int)) (aa (vB (decide ((c:Int)>0))) ?_))
        rcases aj g with⟨u,g⟩|⟨u,g⟩
        ·refine aF rfl u wz (aJ (vL Receipt.enc b) wa rfl (aJ (vI (c:Int)) wa rfl (aJ (vI (w64 ((c:Int)-1))) wa rfl ?_)))
         obtain ⟨T,N,g⟩:=bind_some g
         refine dK Dw rfl rfl N rfl wa (bK rP AY rfl (.d (.agg (Receipt.enc T))) rfl wa (aC 8 0 (.inr (by kernel_rfl)) (λ_ _ ag=>trivial) rP AY rfl rfl (.d (.agg (Receipt.enc i))) rfl wa ?_))
         obtain ⟨C,M,g⟩:=bind_some g
         refine aD (lQ M) rfl hb41 rfl rfl rfl rfl wa (aJ (vB (decide (C>=0))) wa rfl (aa (vB (decide (C>=0))) (aa (vB (decide (C>=0))) (ah ?_))))
         obtain rfl:=ae g
         exact cu
        ·refine aF rfl u wz (af (af (af (af (af (af (af (af (aa (vB false) (aa (vB false) (ah ?_)))))))))))
         obtain rfl:=ae g
         exact cu
       ·rintro ⟨⟩ _ G E l m
        refine aN _ l m ?_
        rcases aj a with⟨w,a⟩|⟨w,a⟩
        ·refine aA rfl w (ai (aa (vI 7) (ah ?_)))
         obtain rfl:=ae a
         obtain rfl:=ae h
         obtain rfl:=ae e
         exact aB (aM [(vI 7)] ⟨rfl,trivial⟩)
        ·refine ay rfl w (av (au (dx (bf j H) wz rfl (aa (vI ((c+1:Nat):Int)) (ah ?_)))))
         obtain rfl:=ae a
         exact aV (c+1,z,()) ⟨h,aP j⟩ (ls_ _) rfl (aG rfl)
  ·rintro n I G E l m
   subst I
   refine aN _ l m (ai (aa (vI 0) (ah ?_)))
   obtain rfl:=ae e
   exact aB (aM [(vI 0)] ⟨rfl,trivial⟩)
theorem nN {b:Int} {r:Bool} (a:dD b=some r) :
  FnM Tryz.prog 74 [.nil,(vI b)] [] (kV r (ax 0) 4 ([]:List Receipt)) (kO r 4):=by
 refine FnM.of_wH ⟨Tryz.prog,27,[],[]⟩ rfl Tryz.func74 rfl rfl (lb_ rfl) (by kernel_rfl) ?_
 unfold dD at a
 refine ai (aa .nil (ah (ak (ai (aa (vI b) (aa (vB (decide (b<0))) (ah ?_)))))))
 rcases aj a with⟨c,a⟩|⟨c,a⟩
 ·refine aA rfl c (au ?_)
  cases a
 ·refine ay rfl c (av (ak (ai (aa (vI b) (aa .nil (Ey MQ rfl wz (aa .nil (EA xG rfl wz (aa (vI (w64 (0-0))) (aa (vI (w64 (b-(w64 (0-0))))) (aa (vI (w64 (b-(w64 (0-0))))) (ah (ai (aa (vI (w64 (b-(w64 (0-0))))) (aa (vB (decide ((w64 (b-(w64 (0-0))))>0))) (ah ?_))))))))))))))))
  rcases aj a with⟨d,a⟩|⟨d,a⟩
  ·refine aA rfl d (au (aa .nil (aa .nil (Ey MQ rfl wz (aJ .nil wz (by kernel_rfl) (aa (vI (w64 (b-(w64 (0-0))))) ?_))))))
   obtain ⟨_,f,a⟩:=bind_some a
   refine N7 (enc:=Receipt.enc) 0 (.inl rfl) MQ (by kernel_rfl) rP z48 rfl (by decide) by48 rfl rfl f wz (λe=>aa .nil (EA xG rfl wz (Nz (m:=0) xG rP rfl rfl rfl (Nat.zero_le _) wz (aa (.vs e 4 0 0) (ah (ai (aa (.vs e 4 0 0) (aa (.vs e 4 0 0) (ah ?_)))))))))
   obtain rfl:=ae a
   exact aB (finK (.inr rfl) 0 rfl rfl)
  ·refine ay rfl d (av (ai (aa .nil (aa .nil (ah ?_)))))
   obtain rfl:=ae a
   exact aB (RS (.inr rfl) rfl)
section
variable [dM:DM]
theorem Eg {b:Receipt} {c:Receipt} {r:Int} (a:lU b c=some r) :
  FnM Tryz.prog 39 [(.d (.agg (Receipt.enc b))),(.d (.agg (Receipt.enc c)))] [] (vI r) []:=by
 refine FnM.of_wH ⟨Tryz.prog,15,[],[]⟩ rfl Tryz.func39 rfl rfl (lb_ rfl) (by kernel_rfl) ?_
 unfold lU at a
 refine ai (eT 0 (.inl rfl) (Receipt.v b) rfl rfl wz (λk=>eT 0 (.inl rfl) (Receipt.v c) rfl rfl wz (λl=>aa (vI 0) (ah (ak (bv (aC 0 0 (.inr (by kernel_rfl)) (λ_ _ ag=>trivial) rP AY rfl rfl (.d (.agg (Receipt.enc b))) rfl wz (aC 1 1 (.inr (by kernel_rfl)) (λ_ _ ag=>⟨.inl ⟨rfl,rfl⟩,trivial⟩) rP AY rfl rfl (.d (.agg (Receipt.enc c))) rfl wz ?_))))))))
 obtain ⟨i,g,a⟩:=bind_some a
 refine aD (lQ g) rfl hb41 rfl rfl rfl rfl wz (aH BF rfl 2 rfl wz (aC 4 0 (.inr (by kernel_rfl)) (λ_ _ ag=>⟨.inl ⟨rfl,rfl⟩,⟨.inl ⟨rfl,rfl⟩,trivial⟩⟩) sz3 ag3 rfl rfl (vI b.At) rfl wz (aH BF rfl 2 rfl wz (aC 6 1 (.inr (by kernel_rfl)) (λ_ _ ag=>⟨.inl ⟨rfl,rfl⟩,⟨.inl ⟨rfl,rfl⟩,⟨.inl ⟨rfl,rfl⟩,trivial⟩⟩⟩) sz3 ag3 rfl rfl (vI c.At) rfl wz ?_))))
 obtain ⟨j,h,a⟩:=bind_some a
 refine aD (iT h) rfl Oa rfl rfl rfl rfl wz (dW (([i,j]:List Int).map eI) nZ BI rfl rfl rfl rfl rfl wz ?_)
 obtain ⟨e,f,a⟩:=bind_some a
 refine aD (lV f) rfl Np rfl rfl rfl rfl wz (aa (vI e) (ah ?_))
 obtain rfl:=ae a
 exact aB (aM [(vI e)] ⟨rfl,trivial⟩)
end
theorem rQ {x r:(List Receipt)} (c:iL x=some r) :
  FnM Tryz.prog 38 [(dV (ax 0) 4 x),(.fn 39 [])] (([]:List Box)++gI 4 Receipt.enc x) (.tup []) (([]:List Box).map some++gT x (gB 4 Receipt.enc r)) :=
 JA (dp:=1) (λ_=>rfl) (E:=Receipt.enc) (F:=λa b=>lU a b) (λ_=>rfl) (λa b r h=>Eg (dM:=dmT) h) hb39 (λβ _ enc hk h1 cf hO g cb blk off cap d w eg hcmp hH hblk hsz=>Tryz.slices_SortFunc_eq_f38 4 Tryz.isAgg48 Tryz.sizeOf48 enc hk h1 cf hO g cb blk off cap d w eg hcmp hH hblk hsz) (λp cap fv w=>Tryz.slices_SortFunc_none_f38 (α:=Nat) p cap fv w) c
theorem mJ {a:(List (List Receipt))} {r:(List Receipt)} (e:cK a=some r) :
  FnM Tryz.prog 37 [(vL (eL Receipt.enc) a)] [] (gV (ax 0) 4 r) (([]:List Box).map some++gO 4 Receipt.enc r):=by
 refine FnM.of_wH ⟨Tryz.prog,36,[],[]⟩ rfl Tryz.func37 rfl rfl (lb_ rfl) (by kernel_rfl) ?_
 unfold cK at e
 refine ai (aa .nil (ah (ai (aa (vI 0) (ah (ak (ai (aa (vL (eL Receipt.enc) a) (bJ un139 rfl wz (aa (vI 0) (ah ?_)))))))))))
 obtain ⟨R,z,e⟩:=bind_some e
 obtain ⟨O,z⟩:=aS z
 refine bH (λ(b:Int)=>[(0,(vL (eL Receipt.enc) a)),(3,(vI b))]) (λ(b:Int)=>[]) (λ(h:Nat)=>(λ(b:Int)=>[(0,(vL (eL Receipt.enc) a)),(3,(vI b)),(9,(vL (eL Receipt.enc) a)),(10,(vI (a.length:Int))),(11,(vI (h:Int)))])) (λk x s=>bE k x s) R a 0 z rfl (aG rfl) ?_ ?_
 ·rintro ⟨h,E,b⟩ ⟨o,l⟩
  dsimp only at o l
  cases E with
  | nil =>
   obtain rfl:=ae o
   refine ai (aa (vB (decide ((h:Int)<(a.length:Int)))) (ah ?_))
   refine ak (ay rfl (drop_nil l) (aX ?_))
   exact aU (b) rfl rfl (aG rfl)
  | cons f E =>
   obtain ⟨L,w,o⟩:=bind_some o
   refine ai (aa (vB (decide ((h:Int)<(a.length:Int)))) (ah ?_))
   refine ak (aA rfl (aZ l) (av ?_))
   unfold bE at w
   refine ak (aK (ai (dK Rv rfl rfl (bz l) rfl wz (bK sz30 ag30 rfl (vL Receipt.enc f) rfl wz (aa (vL Receipt.enc f) (ah (ai (aa (vI b) (aa (vL Receipt.enc f) (bJ xG rfl wz (aa (vI (w64 (b+(f.length:Int)))) (aa (vI (w64 (b+(f.length:Int)))) (ah (ai (aa (vI (w64 (b+(f.length:Int)))) (aa (vB (decide ((w64 (b+(f.length:Int)))<0))) (ah ?_)))))))))))))))))
   obtain ⟨U,q,w⟩:=bind_some w
   refine aR [(0,(vL (eL Receipt.enc) a)),(3,(vI (w64 (b+(f.length:Int))))),(9,(vL (eL Receipt.enc) a)),(10,(vI (a.length:Int))),(11,(vI (h:Int)))] [] ?_ ?_
   ·rcases aj q with⟨y,q⟩|⟨y,q⟩
    ·refine aA rfl y (au ?_)
     cases q
    ·refine ay rfl y (av ?_)
     obtain rfl:=ae q
     exact cu
   ·rintro ⟨⟩ _ K G t u
    refine aN _ t u (au (dx (bf l O) wz rfl (aa (vI ((h+1:Nat):Int)) (ah ?_))))
    obtain rfl:=ae w
    exact aV (h+1,E,(w64 (b+(f.length:Int)))) ⟨o,aP l⟩ (ls_ _) rfl (aG rfl)
 ·rintro b B K G t u
  subst B
  refine aN _ t u (ai (aa (vI b) ?_))
  obtain ⟨g,P,e⟩:=bind_some e
  refine Kg (enc:=Receipt.enc) (nN P) rfl hb74 (by kernel_rfl) rfl (by kernel_rfl) wz (λI=>aa (kV g I 4 ([]:List Receipt)) (ah (ak (ai (aa (vL (eL Receipt.enc) a) (bJ un139 rfl wz (aa (vI 0) (ah ?_))))))))
  obtain ⟨T,A,e⟩:=bind_some e
  obtain ⟨M,A⟩:=aS A
  refine gq (σ:=(List Receipt)) (N:=Nm) (λp=>(λ(c:List Receipt) (d:Nm)=>([(6,(kV g d 4 c))]:SL_)) p.1 p.2) (λp=>(λ(c:List Receipt) (d:Nm)=>([(d,kB g 4 Receipt.enc c)]:Hp)) p.1 p.2) (λ(m:Nat)=>(λp=>(λ(c:List Receipt) (d:Nm)=>([(6,(kV g d 4 c)),(25,(vL (eL Receipt.enc) a)),(26,(vI (a.length:Int))),(27,(vI (m:Int)))]:SL_)) p.1 p.2)) (λk x s=>bG k x s) T a (([]:List Receipt),I) A rfl (aG rfl) ?_ ?_
  ·rintro ⟨m,C,c,d⟩ ⟨n,j⟩
   dsimp only at n j
   cases C with
   | nil =>
    obtain rfl:=ae n
    refine ai (aa (vB (decide ((m:Int)<(a.length:Int)))) (ah ?_))
    refine ak (ay rfl (drop_nil j) (aX ?_))
    exact aU (c,d) rfl rfl (aG rfl)
   | cons F C =>
    obtain ⟨L,v,n⟩:=bind_some n
    refine ai (aa (vB (decide ((m:Int)<(a.length:Int)))) (ah ?_))
    refine ak (aA rfl (aZ j) (av ?_))
    unfold bG at v
    refine ak (aK (ai (dK Rv rfl rfl (bz j) rfl wz (bK sz30 ag30 rfl (vL Receipt.enc F) rfl wz (aa (vL Receipt.enc F) (ah (au (aa (kV g d 4 c) (aa (vL Receipt.enc F) ?_)))))))))
    obtain ⟨H,Q,v⟩:=bind_some v
    refine Nr 0 il ft (i:=0) MQ MQ rP z48 rfl (by decide) by48 (by decide) (λ_=>rfl) rfl rfl rfl Q wz (λJ=>aa (kV g J 4 H) (ah (au (dx (bf j M) wz rfl (aa (vI ((m+1:Nat):Int)) (ah ?_))))))
    obtain rfl:=ae v
    exact aV (m+1,C,H,J) ⟨n,aP j⟩ (ls_ _) rfl (aG rfl)
  ·rintro ⟨c,d⟩ B K G t u
   subst B
   refine aN _ t u (ai (aa (kV g d 4 c) (aa (kV g d 4 c) (ah ?_))))
   obtain ⟨_,hk_,e⟩:=bind_some e
   refine wH_re (v':=(gV d 4 c)) 2 rfl (kV_g hk_) (wH_reH (b':=gB 4 Receipt.enc c) 0 rfl (kB_g hk_) ?_)
   obtain rfl:=ae e
   exact aB (NJ (outs:=([]:List Box)) (.inr rfl) 0 rfl rfl rfl (by kernel_rfl) (by kernel_rfl))
theorem yh {b:Receipt} {c:Receipt} {r:Bool} (a:nK b c=some r) :
  FnM Tryz.prog 44 [(.d (.agg (Receipt.enc b))),(.d (.agg (Receipt.enc c)))] [] (vB r) []:=by
 refine FnM.of_wH ⟨Tryz.prog,9,[],[]⟩ rfl Tryz.func44 rfl rfl (lb_ rfl) (by kernel_rfl) ?_
 unfold nK at a
 refine ai (eT 0 (.inl rfl) (Receipt.v b) rfl rfl wz (λg=>eT 0 (.inl rfl) (Receipt.v c) rfl rfl wz (λh=>aa (vB false) (ah (ai (aC 0 0 il ft rP AY rfl rfl (.d (.agg (Receipt.enc b))) rfl wz (aC 0 1 il ft rP AY rfl rfl (.d (.agg (Receipt.enc c))) rfl wz ?_)))))))
 obtain ⟨e,f,a⟩:=bind_some a
 refine aD (lQ f) rfl hb41 rfl rfl rfl rfl wz (aa (vB (e==0)) (aa (vB (e==0)) (ah ?_)))
 obtain rfl:=ae a
 exact aB (aM [(vB (e==0))] ⟨rfl,trivial⟩)
theorem ll {b:(List Receipt)} {r:(List Receipt)} (h:bQ b=some r) :
  FnM Tryz.prog 43 [(dV (ax 0) 4 b),(.fn 44 [])] (([]:List Box)++gI 4 Receipt.enc b) (.d (.wild 4 r.length)) (([]:List Box).map some++gT b none):=by
 refine FnM.of_wHv ⟨Tryz.prog,66,[],[]⟩ rfl Tryz.func43 rfl rfl (lb_ rfl) (by kernel_rfl) ?_
 unfold bQ at h
 refine ai (aa .nil (ah (ak (ai (aa (dV (ax 0) 4 b) (wZ xG rfl wz (aa (vB (decide ((b.length:Int)<2))) (ah ?_))))))))
 rcases aj h with⟨y,h⟩|⟨y,h⟩
 ·refine aA rfl y (ai (aa (dV (ax 0) 4 b) (aa (dV (ax 0) 4 b) (ah (Ll 4 0 rfl rfl ?_)))))
  obtain rfl:=ae h
  exact aB (uY (bs:=([]:List Box)) (os:=([]:List Box)) (xs:=b) (o:=none) (.inr rfl) [(.d (.wild 4 b.length))] ⟨rfl,trivial⟩ rfl rfl rfl rfl rfl (by kernel_rfl) wV rfl)
 ·refine ay rfl y (av (ak (ai (aa (vI 1) (ah ?_)))))
  obtain ⟨Æ,B,h⟩:=bind_some h
  obtain ⟨Å,B⟩:=dF B
  refine eU (λ(c:Int)=>[(0,(dV (ax 0) 4 b))]) (λ(c:Int)=>[((ax 0),gB 4 Receipt.enc b)]) (λ(v:Nat)=>(λ(c:Int)=>[(0,(dV (ax 0) 4 b)),(1,(.fn 44 [])),(5,(vI c))])) (λs=>aO b s) Æ Å 1 B rfl (aG rfl) ?_ ?_
  ·rintro ⟨v,c⟩ k
   dsimp only at k
   cases v with
   | zero=>cases k
   | succ v =>
    obtain ⟨O,e,k⟩:=bind_some k
    unfold aO at e
    refine ak (ai (aa (vI c) (aa (dV (ax 0) 4 b) (wZ xG rfl wz (aa (vB (decide (c<(b.length:Int)))) (ah ?_))))))
    rcases aj e with⟨w,e⟩|⟨w,e⟩
    ·refine aA rfl w (av (ak (aK (ak (bv (aa (.fn 44 []) (aa (dV (ax 0) 4 b) (aa (vI c) ?_))))))))
     obtain ⟨_,G,e⟩:=bind_some e
     refine iZ Dw rfl rfl (gN G) (dP G) wz ?_
     obtain ⟨P,Y,e⟩:=bind_some e
     refine jm 4 0 (.inr (by kernel_rfl)) (λ_ _ ag=>trivial) rP AY rfl rfl Y (.d (.agg (Receipt.enc P))) rfl wz (aa (dV (ax 0) 4 b) (aa (vI c) (aa (vI (w64 (c-1))) ?_)))
     obtain ⟨_,H,e⟩:=bind_some e
     refine iZ Dw rfl rfl (gN H) (dP H) wz ?_
     obtain ⟨Q,Z,e⟩:=bind_some e
     refine jm 9 0 (.inr (by kernel_rfl)) (λ_ _ ag=>⟨.inl ⟨rfl,rfl⟩,trivial⟩) rP AY rfl rfl Z (.d (.agg (Receipt.enc Q))) rfl wz ?_
     obtain ⟨Ê,U,e⟩:=bind_some e
     refine aD (yh U) rfl hb44 rfl rfl rfl rfl wz (ah ?_)
     rcases aj e with⟨x,e⟩|⟨x,e⟩
     ·refine aA rfl x (ai (aa (dV (ax 0) 4 b) (aa (vI c) ?_)))
      obtain ⟨_,j,e⟩:=bind_some e
      replace j:=Q3 j
      refine bT (v':=(vV (ax 0) 4 b)) 0 rfl (sV j) (bT (v':=(vV (ax 0) 4 b)) 13 rfl (sV j) (bT (v':=(vV (ax 0) 4 b)) 19 rfl (sV j) (bT (v':=(vV (ax 0) 4 b)) 23 rfl (sV j) (bT (v':=(vV (ax 0) 4 b)) 29 rfl (sV j) (Lh 0 rfl (Pz j) ?_)))))
      obtain ⟨_,W,e⟩:=bind_some e
      refine Cz xG rP rfl rfl W wz (aa (.vs (ax 0) 4 ((c).toNat) (((b.length:Int)).toNat-(c).toNat)) (ah (ak (ai (aa (vI 1) (ah ?_))))))
      obtain ⟨Ç,C,e⟩:=bind_some e
      obtain ⟨Ä,C⟩:=dF C
      refine eU (λ(a:(List Receipt)×Int×Int)=>[(0,(vV (ax 0) 4 a.1)),(5,(vI a.2.1))]) (λ(a:(List Receipt)×Int×Int)=>[((ax 0),some (bV 4 Receipt.enc a.1))]) (λ(u:Nat)=>(λ(a:(List Receipt)×Int×Int)=>[(0,(vV (ax 0) 4 a.1)),(1,(.fn 44 [])),(5,(vI a.2.1)),(6,(.vs (ax 0) 4 ((c).toNat) (((b.length:Int)).toNat-(c).toNat))),(7,(vI a.2.2))])) (λs=>aW b c s) Ç Ä (b,c,1) C rfl (aG rfl) ?_ ?_
      ·rintro ⟨u,a⟩ l
       dsimp only at l
       cases u with
       | zero=>cases l
       | succ u =>
        obtain ⟨O,f,l⟩:=bind_some l
        unfold aW at f
        refine ak (ai (aa (vI a.2.2) (aa (.vs (ax 0) 4 ((c).toNat) (((b.length:Int)).toNat-(c).toNat)) (Rw xG rfl wz (aa (vB (decide (a.2.2<(((((b.length:Int)).toNat-(c).toNat):Nat):Int)))) (ah ?_))))))
        rcases aj f with⟨z,f⟩|⟨z,f⟩
        ·refine aA rfl z (av (ak (aK (ak (bv (aa (.fn 44 []) (aa (.vs (ax 0) 4 ((c).toNat) (((b.length:Int)).toNat-(c).toNat)) (aa (vI a.2.2) ?_))))))))
         obtain ⟨_,I,f⟩:=bind_some f
         refine Bz Dw rfl rfl (JG I) (DX I) wz ?_
         obtain ⟨R,À,f⟩:=bind_some f
         refine F8 4 0 (.inr (by kernel_rfl)) (λ_ _ ag=>trivial) rP AY rfl rfl À (.d (.agg (Receipt.enc R))) rfl wz (aa (.vs (ax 0) 4 ((c).toNat) (((b.length:Int)).toNat-(c).toNat)) (aa (vI a.2.2) (aa (vI (w64 (a.2.2-1))) ?_)))
         obtain ⟨_,J,f⟩:=bind_some f
         refine Bz Dw rfl rfl (JG J) (DX J) wz ?_
         obtain ⟨T,Á,f⟩:=bind_some f
         refine F8 9 0 (.inr (by kernel_rfl)) (λ_ _ ag=>⟨.inl ⟨rfl,rfl⟩,trivial⟩) rP AY rfl rfl Á (.d (.agg (Receipt.enc T))) rfl wz ?_
         obtain ⟨È,X,f⟩:=bind_some f
         refine aD (yh X) rfl hb44 rfl rfl rfl rfl wz (aa (vB (!È)) (ah ?_))
         obtain ⟨p,g,f⟩:=bind_some f
         refine aR [(0,(vV (ax 0) 4 p.1)),(1,(.fn 44 [])),(5,(vI p.2)),(6,(.vs (ax 0) 4 ((c).toNat) (((b.length:Int)).toNat-(c).toNat))),(7,(vI a.2.2))] [((ax 0),some (bV 4 Receipt.enc p.1))] ?_ ?_
         ·rcases aj g with⟨A,g⟩|⟨A,g⟩
          ·refine aA rfl A (ai (aa (vV (ax 0) 4 a.1) (aa (vI a.2.1) (aa (.vs (ax 0) 4 ((c).toNat) (((b.length:Int)).toNat-(c).toNat)) (aa (vI a.2.2) ?_)))))
           obtain ⟨_,K,g⟩:=bind_some g
           refine Bz Dw rfl rfl (JG K) (DX K) wz ?_
           obtain ⟨q,Â,g⟩:=bind_some g
           refine F8 0 0 il ft rP AY rfl rfl Â (.d (.agg (Receipt.enc q))) rfl wz ?_
           obtain ⟨_,L,g⟩:=bind_some g
           refine Bz Dw rfl rfl (gN L) (dP L) wz ?_
           obtain ⟨É,Ã,g⟩:=bind_some g
           refine QW 0 il ft 0 rP rfl rfl Ã q rfl wz (bT (v':=(vV (ax 0) 4 (a.1.set (0+(a.2.1).toNat) q))) 0 rfl (zR (by simp)) (bT (v':=(vV (ax 0) 4 (a.1.set (0+(a.2.1).toNat) q))) 50 rfl (zR (by simp)) (ah (au (aa (vI a.2.1) (aa (vI (w64 (a.2.1+1))) (aa (vI (w64 (a.2.1+1))) (ah ?_))))))))
           obtain rfl:=ae g
           exact cu
          ·refine ay rfl A (av ?_)
           obtain rfl:=ae g
           exact cu
         ·rintro ⟨⟩ _ N F m n
          refine aN _ m n (au (aa (vI a.2.2) (aa (vI (w64 (a.2.2+1))) (aa (vI (w64 (a.2.2+1))) (ah ?_)))))
          obtain rfl:=ae f
          exact aV (u,(p.1,p.2,(w64 (a.2.2+1)))) l (ls_ _) rfl (aG rfl)
        ·refine ay rfl z (aX ?_)
         obtain rfl:=ae f
         obtain rfl:=ae l
         exact aU ((a.1,a.2.1,a.2.2)) rfl rfl (aG rfl)
      ·rintro a E N F m n
       subst E
       refine aN _ m n (ai (aa (vV (ax 0) 4 a.1) (aa (vI a.2.1) ?_)))
       obtain ⟨_,t,e⟩:=bind_some e
       refine Cz xG rP rfl rfl t wz (Pm (i:=0) 0 il ft (⟨(⟨#[]⟩:ByteArray),(⟨#[]⟩:ByteArray),0,false⟩:Receipt) MQ rP z48 rfl rfl rfl (by decide) rfl (uQ t) rfl wz (bT (v':=(vV (ax 0) 4 (a.1.take ((a.2.1).toNat)++List.replicate (((a.1.length:Int)).toNat-(a.2.1).toNat) (⟨(⟨#[]⟩:ByteArray),(⟨#[]⟩:ByteArray),0,false⟩:Receipt)++a.1.drop (((a.2.1).toNat)+(((a.1.length:Int)).toNat-(a.2.1).toNat))))) 0 rfl (zR (Aq (uQ t))) (bT (v':=(vV (ax 0) 4 (a.1.take ((a.2.1).toNat)++List.replicate (((a.1.length:Int)).toNat-(a.2.1).toNat) (⟨(⟨#[]⟩:ByteArray),(⟨#[]⟩:ByteArray),0,false⟩:Receipt)++a.1.drop (((a.2.1).toNat)+(((a.1.length:Int)).toNat-(a.2.1).toNat))))) 59 rfl (zR (Aq (uQ t))) (ah (ai (aa (vV (ax 0) 4 (a.1.take ((a.2.1).toNat)++List.replicate (((a.1.length:Int)).toNat-(a.2.1).toNat) (⟨(⟨#[]⟩:ByteArray),(⟨#[]⟩:ByteArray),0,false⟩:Receipt)++a.1.drop (((a.2.1).toNat)+(((a.1.length:Int)).toNat-(a.2.1).toNat)))) (aa (vI a.2.1) ?_)))))))
       obtain ⟨_,M,e⟩:=bind_some e
       refine Mk xG rP rfl rfl M wz (aa (.vs (ax 0) 4 0 ((a.2.1).toNat)) (ah (Rc 4 0 (IW (a.1.take ((a.2.1).toNat)++List.replicate (((a.1.length:Int)).toNat-(a.2.1).toNat) (⟨(⟨#[]⟩:ByteArray),(⟨#[]⟩:ByteArray),0,false⟩:Receipt)++a.1.drop (((a.2.1).toNat)+(((a.1.length:Int)).toNat-(a.2.1).toNat))) 0 ((a.2.1).toNat)) (Rl (uQ M)) rfl rfl ?_)))
       obtain rfl:=ae e
       obtain rfl:=ae k
       obtain rfl:=ae h
       exact aB (uY (bs:=([]:List Box)) (os:=([]:List Box)) (xs:=b) (o:=none) (.inr rfl) [(.d (.wild 4 (IW (a.1.take ((a.2.1).toNat)++List.replicate (((a.1.length:Int)).toNat-(a.2.1).toNat) (⟨(⟨#[]⟩:ByteArray),(⟨#[]⟩:ByteArray),0,false⟩:Receipt)++a.1.drop (((a.2.1).toNat)+(((a.1.length:Int)).toNat-(a.2.1).toNat))) 0 ((a.2.1).toNat)).length))] ⟨rfl,trivial⟩ rfl rfl rfl rfl rfl (by kernel_rfl) wV rfl)
     ·refine ay rfl x (av (au (aa (vI c) (aa (vI (w64 (c+1))) (aa (vI (w64 (c+1))) (ah ?_))))))
      obtain rfl:=ae e
      exact aV (v,(w64 (c+1))) k (ls_ _) rfl (aG rfl)
    ·refine ay rfl w (aX ?_)
     obtain rfl:=ae e
     obtain rfl:=ae k
     exact aU (c) rfl rfl (aG rfl)
  ·rintro c E N F m n
   subst E
   refine aN _ m n (ai (aa (dV (ax 0) 4 b) (aa (dV (ax 0) 4 b) (ah (Ll 4 0 rfl rfl ?_)))))
   obtain rfl:=ae h
   exact aB (uY (bs:=([]:List Box)) (os:=([]:List Box)) (xs:=b) (o:=none) (.inr rfl) [(.d (.wild 4 b.length))] ⟨rfl,trivial⟩ rfl rfl rfl rfl rfl (by kernel_rfl) wV rfl)
theorem Gp {b:(List Receipt)} {c:(List Receipt)} {r:(List Receipt)×Int} (a:tF b c=some r) :
  FnM Tryz.prog 11 [(vL Receipt.enc b),(vL Receipt.enc c)] [] (.tup [(.d (.wild 4 r.1.length)),(vI r.2)]) []:=by
 refine FnM.of_wH ⟨Tryz.prog,34,[],[]⟩ rfl Tryz.func11 rfl rfl (lb_ rfl) (by kernel_rfl) ?_
 unfold tF at a
 refine ai (aa .nil (aa (vI 0) (ah (ak (ai (aa (vL Receipt.enc b) (aa (vL Receipt.enc c) (aJ (.d (.agg [dl Receipt.enc b,dl Receipt.enc c])) wz (by kernel_rfl) (aa (vI 0) (ah ?_))))))))))
 obtain ⟨I,t,a⟩:=bind_some a
 obtain ⟨y,t⟩:=aS t
 refine bH (λ(o:Unit)=>[(0,(vL Receipt.enc b)),(1,(vL Receipt.enc c))]) (λ(o:Unit)=>[]) (λ(i:Nat)=>(λ(o:Unit)=>[(0,(vL Receipt.enc b)),(1,(vL Receipt.enc c)),(12,(.d (.agg [dl Receipt.enc b,dl Receipt.enc c]))),(13,(vI (i:Int)))])) (λk x s=>om b c k x s) I (List.range (2:Int).toNat) () t rfl (aG rfl) ?_ ?_
 ·rintro ⟨i,u,o⟩ ⟨g,m⟩
  dsimp only at g m
  cases u with
  | nil =>
   obtain rfl:=ae g
   refine ai (aa (vB (decide ((i:Int)<2))) (ah ?_))
   refine ak (ay rfl (mg m) (aX ?_))
   exact aU (o) rfl rfl (aG rfl)
  | cons M u =>
   obtain ⟨K,e,g⟩:=bind_some g
   refine ai (aa (vB (decide ((i:Int)<2))) (ah ?_))
   refine ak (aA rfl (kR m) (av ?_))
   unfold om at e
   refine ak (aK (ai ?_))
   obtain ⟨v,H,e⟩:=bind_some e
   refine Tg (enc:=(eL Receipt.enc)) (xs:=([b,c]:List (List Receipt))) un85 sz30 ag30 rfl rfl rfl rfl H (λ_=>rfl) (.inr rfl) (vL Receipt.enc v) rfl wz (aa (vL Receipt.enc v) (ah (ai (aa (vL Receipt.enc v) ?_))))
   obtain ⟨j,C,e⟩:=bind_some e
   refine aD (rF C) rfl hb36 rfl rfl rfl rfl wz (aa (vI j) (ah (ai (aa (vI j) (aa (vB (j != 0)) (ah ?_))))))
   rcases aj e with⟨p,e⟩|⟨p,e⟩
   ·refine aA rfl p (ai (aa (vI j) (aa .nil (aa (vI j) (ah (Mo 4 4 rfl ?_))))))
    obtain rfl:=ae e
    obtain rfl:=ae g
    obtain rfl:=ae a
    exact aB (aM [(.d (.wild 4 ([]:List Receipt).length)),(vI j)] ⟨rfl,⟨rfl,trivial⟩⟩)
   ·refine ay rfl p (av (au (dx (ma m y) wz rfl (aa (vI ((i+1:Nat):Int)) (ah ?_)))))
    obtain rfl:=ae e
    exact aV (i+1,u,()) ⟨g,aP m⟩ (ls_ _) rfl (aG rfl)
 ·rintro o z L J A B
  subst z
  refine aN _ A B (ai (aa (vL Receipt.enc b) (aa (vL Receipt.enc c) (dW (([b,c]:List (List Receipt)).map (eL Receipt.enc)) Rv ez139 rfl rfl rfl rfl rfl wz ?_))))
  obtain ⟨w,E,a⟩:=bind_some a
  refine OC [] (mJ E) rfl hb37 rfl (by kernel_rfl) (by kernel_rfl) (by kernel_rfl) (by kernel_rfl) (by kernel_rfl) rfl (by decide) (by kernel_rfl) wz ([]:Hp) (λ_=>by kernel_rfl) (λf=>aa (gV f 4 w) (ah (ai (aa (gV f 4 w) ?_))))
  obtain ⟨n,F,a⟩:=bind_some a
  obtain ⟨_,h,a⟩:=bind_some a
  replace h:=jQ h
  refine kC 0 [] 0 0 il ft (rQ F) rfl hb38 rfl rfl rfl (by kernel_rfl) rfl (.inl rfl) rfl (by kernel_rfl) (by kernel_rfl) (by kernel_rfl) (by kernel_rfl) rfl (by decide) (by kernel_rfl) jN (tV h) wz ([(f,gB 4 Receipt.enc n)]:Hp) (by kernel_rfl) (bT (v':=(gV f 4 n)) 25 rfl (fC h.symm) (bT (v':=(gV f 4 n)) 26 rfl (fC h.symm) (bT (v':=(gV f 4 n)) 9 rfl (fC h.symm) (ah (ai (aa (gV f 4 n) ?_))))))
  obtain ⟨l,G,a⟩:=bind_some a
  refine kC 0 [] 0 0 il ft (ll G) rfl hb43 rfl rfl rfl (by kernel_rfl) rfl (.inl rfl) rfl (by kernel_rfl) (by kernel_rfl) (by kernel_rfl) (by kernel_rfl) rfl (by decide) (by kernel_rfl) wV (λ_=>rfl) wz ([(f,none)]:Hp) (by kernel_rfl) (aa (.d (.wild 4 l.length)) (ah (ak (ai (aa (.d (.wild 4 l.length)) (GH xG rfl wz (aa (vB (decide ((l.length:Int)>2000))) (ah ?_))))))))
  rcases aj a with⟨q,a⟩|⟨q,a⟩
  ·refine aA rfl q (ai (aa .nil (aa (vI 2) (ah (Mo 4 4 rfl ?_)))))
   obtain rfl:=ae a
   exact aB (aM [(.d (.wild 4 ([]:List Receipt).length)),(vI 2)] ⟨rfl,⟨rfl,trivial⟩⟩)
  ·refine ay rfl q (av (ai (aa (.d (.wild 4 l.length)) (aa (.d (.wild 4 l.length)) (aa (vI 0) (ah ?_))))))
   obtain rfl:=ae a
   exact aB (aM [(.d (.wild 4 l.length)),(vI 0)] ⟨rfl,⟨rfl,trivial⟩⟩)
theorem uB {a:(List Receipt)} {r:Unit} (g:jr a=some r) :
  FnM Tryz.prog 12 [(.d (.wild 4 a.length))] [] (.tup []) []:=by
 refine FnM.of_wH ⟨Tryz.prog,14,[],[]⟩ rfl Tryz.func12 rfl rfl (lb_ rfl) (by kernel_rfl) ?_
 unfold jr at g
 refine ai (bZ 0 (.inl rfl) z48 rfl wz (λl=>ah (ai (aa (.d (.wild 4 a.length)) (GH xG rfl wz (aa (vI 0) (ah ?_)))))))
 obtain ⟨q,i,g⟩:=bind_some g
 obtain ⟨n,i⟩:=aS i
 refine bH (λ(f:Unit)=>[]) (λ(f:Unit)=>[(l,some (.cells 4 [(vS (⟨#[]⟩:ByteArray)),(vS (⟨#[]⟩:ByteArray)),(vI 0),(vB false)]))]) (λ(b:Nat)=>(λ(f:Unit)=>[(0,(.d (.wild 4 a.length))),(2,(.ref l 0 0)),(5,(vI (a.length:Int))),(6,(vI (b:Int)))])) (λk x s=>iO a k x s) q (List.range ((a.length:Int)).toNat) () i rfl (aG rfl) ?_ ?_
 ·rintro ⟨b,j,f⟩ ⟨e,c⟩
  dsimp only at e c
  cases j with
  | nil =>
   obtain rfl:=ae e
   refine ai (aa (vB (decide ((b:Int)<(a.length:Int)))) (ah ?_))
   refine ak (ay rfl (mg c) (aX ?_))
   exact aU (f) rfl rfl (aG rfl)
  | cons y j =>
   obtain ⟨u,h,e⟩:=bind_some e
   refine ai (aa (vB (decide ((b:Int)<(a.length:Int)))) (ah ?_))
   refine ak (aA rfl (kR c) (av ?_))
   unfold iO at h
   refine ak (aK (ai (aa (vI (b:Int)) (aa (vI (b:Int)) (ah (au (aa (.d (.wild 4 a.length)) (aa (vI (b:Int)) (aC 0 0 il ft rP AY rfl rfl (.d (.agg (Receipt.enc (⟨(⟨#[]⟩:ByteArray),(⟨#[]⟩:ByteArray),0,false⟩:Receipt)))) rfl wz ?_)))))))))
   obtain ⟨_,m,h⟩:=bind_some h
   refine OH Dw rfl rfl (gN m) (dP m) wz (PG rP rfl rfl wz (ah (au (dx (ma c n) wz rfl (aa (vI ((b+1:Nat):Int)) (ah ?_))))))
   obtain rfl:=ae h
   exact aV (b+1,j,()) ⟨e,aP c⟩ (ls_ _) rfl (aG rfl)
 ·rintro f o w t v p
  subst o
  show pI _ _ _ _ _ _ _ _
  obtain rfl:=ae g
  exact nV (H0:=([(l,some (.cells 4 [(vS (⟨#[]⟩:ByteArray)),(vS (⟨#[]⟩:ByteArray)),(vI 0),(vB false)]))]:Hp)) (sl':=envS []) p (O3 [] trivial (.inl rfl))
theorem AZ {b:(List Post)} {r:Int} (e:jE b=some r) :
  FnM Tryz.prog 82 [(vL Post.enc b)] [] (vI r) []:=by
 refine FnM.of_wH ⟨Tryz.prog,44,[],[]⟩ rfl Tryz.func82 rfl rfl (lb_ rfl) (by kernel_rfl) ?_
 unfold jE at e
 refine ai (aa (vI 0) (ah (ak (ai (aa (vL Post.enc b) (bJ Nw rfl wz (aa (vB (decide ((b.length:Int)>500))) (ah ?_))))))))
 rcases aj e with⟨q,e⟩|⟨q,e⟩
 ·refine aA rfl q (ai (aa (vI 2) (ah ?_)))
  obtain rfl:=ae e
  exact aB (aM [(vI 2)] ⟨rfl,trivial⟩)
 ·refine ay rfl q (av (ak (ai (aa (vL Post.enc b) (bJ Nw rfl wz (aa (vI 0) (ah ?_)))))))
  obtain ⟨N,z,e⟩:=bind_some e
  obtain ⟨H,z⟩:=aS z
  refine bH (λ(o:Unit)=>[]) (λ(o:Unit)=>[]) (λ(c:Nat)=>(λ(o:Unit)=>[(0,(vL Post.enc b)),(8,(vL Post.enc b)),(9,(vI (b.length:Int))),(10,(vI (c:Int)))])) (λk x s=>iy b k x s) N b () z rfl (aG rfl) ?_ ?_
  ·rintro ⟨c,A,o⟩ ⟨h,l⟩
   dsimp only at h l
   cases A with
   | nil =>
    obtain rfl:=ae h
    refine ai (aa (vB (decide ((c:Int)<(b.length:Int)))) (ah ?_))
    refine ak (ay rfl (drop_nil l) (aX ?_))
    exact aU (o) rfl rfl (aG rfl)
   | cons f A =>
    obtain ⟨Q,a,h⟩:=bind_some h
    refine ai (aa (vB (decide ((c:Int)<(b.length:Int)))) (ah ?_))
    refine ak (aA rfl (aZ l) (av ?_))
    unfold iy at a
    refine ak (aK (ai (aa (vI (c:Int)) (dK MU rfl rfl (bz l) rfl wz (bK BZ Ii rfl (.d (.agg (Post.enc f))) rfl wz (bZ 0 (.inl rfl) z65 rfl wz (λB=>aa (vI (c:Int)) (gp 0 il ft 0 BZ rfl rfl (Post.v f) rfl wz (ah (aK (ai (aH Cj rfl 0 rfl wz (aC 0 0 il ft sz9 ag9 rfl rfl (vS f.Player) rfl wz ?_)))))))))))))
    obtain ⟨E,J,a⟩:=bind_some a
    refine aD (gX J) rfl DY rfl rfl rfl rfl wz (aa (vB (!E)) (aa (vB (!E)) (ah ?_)))
    rcases aj a with⟨p,a⟩|⟨p,a⟩
    ·refine aA rfl p (ai (aa (vI 5) (ah ?_)))
     obtain rfl:=ae a
     obtain rfl:=ae h
     obtain rfl:=ae e
     exact aB (aM [(vI 5)] ⟨rfl,trivial⟩)
    ·refine ay rfl p (ak ?_)
     obtain ⟨O,g,a⟩:=bind_some a
     refine aR [(0,(vL Post.enc b)),(3,(vI (c:Int))),(4,(.ref B 0 0)),(8,(vL Post.enc b)),(9,(vI (b.length:Int))),(10,(vI (c:Int))),(20,(vB O))] [(B,some (.cells 3 (Post.v f)))] ?_ ?_
     ·refine au (aH NM rfl 1 rfl wz (aC 0 0 il ft sz3 ag3 rfl rfl (vI f.X) rfl wz ?_))
      obtain ⟨R,K,g⟩:=bind_some g
      refine aD (bI K) rfl uO rfl rfl rfl rfl wz ?_
      rcases aj g with⟨t,g⟩|⟨t,g⟩
      ·refine aF rfl t wz (af (af (af (aa (vB true) (aa (vB true) (ah ?_))))))
       obtain rfl:=ae g
       exact cu
      ·refine aF rfl t wz (aH Oo rfl 2 rfl wa (aC 0 0 il ft sz3 ag3 rfl rfl (vI f.Y) rfl wa ?_))
       obtain ⟨F,L,g⟩:=bind_some g
       refine aD (bI L) rfl uO rfl rfl rfl rfl wa (aa (vB F) (aa (vB F) (ah ?_)))
       obtain rfl:=ae g
       exact cu
     ·rintro ⟨⟩ _ G C m n
      refine aN _ m n ?_
      rcases aj a with⟨u,a⟩|⟨u,a⟩
      ·refine aA rfl u (ai (aa (vI 1) (ah ?_)))
       obtain rfl:=ae a
       obtain rfl:=ae h
       obtain rfl:=ae e
       exact aB (aM [(vI 1)] ⟨rfl,trivial⟩)
      ·refine ay rfl u (ak ?_)
       obtain ⟨P,i,a⟩:=bind_some a
       refine aR [(0,(vL Post.enc b)),(8,(vL Post.enc b)),(9,(vI (b.length:Int))),(10,(vI (c:Int))),(29,(vB P))] [(B,some (.cells 3 (Post.v f)))] ?_ ?_
       ·refine bv (aa (vI (c:Int)) (aa (vB (decide ((c:Int)>0))) ?_))
        rcases aj i with⟨w,i⟩|⟨w,i⟩
        ·refine aF rfl w wz (aH Cj rfl 0 rfl wa (aC 4 0 (.inr (by kernel_rfl)) (λ_ _ ag=>trivial) sz9 ag9 rfl rfl (vS f.Player) rfl wa (aJ (vL Post.enc b) wa rfl (aJ (vI (c:Int)) wa rfl (aJ (vI (w64 ((c:Int)-1))) wa rfl ?_)))))
         obtain ⟨j,M,i⟩:=bind_some i
         refine dK MU rfl rfl M rfl wa (uJ Cj rfl [.str j.Player,.int .i64 j.X,.int .i64 j.Y] rfl rfl wa (bK sz9 ag9 rfl (vS j.Player) rfl wa (aJ (vB (sLe f.Player j.Player)) wa rfl (aa (vB (sLe f.Player j.Player)) (aa (vB (sLe f.Player j.Player)) (ah ?_))))))
         obtain rfl:=ae i
         exact cu
        ·refine aF rfl w wz (af (af (af (af (af (af (af (af (af (aa (vB false) (aa (vB false) (ah ?_))))))))))))
         obtain rfl:=ae i
         exact cu
       ·rintro ⟨⟩ _ G C m n
        refine aN _ m n ?_
        rcases aj a with⟨y,a⟩|⟨y,a⟩
        ·refine aA rfl y (ai (aa (vI 7) (ah ?_)))
         obtain rfl:=ae a
         obtain rfl:=ae h
         obtain rfl:=ae e
         exact aB (aM [(vI 7)] ⟨rfl,trivial⟩)
        ·refine ay rfl y (av (au (dx (bf l H) wz rfl (aa (vI ((c+1:Nat):Int)) (ah ?_)))))
         obtain rfl:=ae a
         exact aV (c+1,A,()) ⟨h,aP l⟩ (ls_ _) rfl (aG rfl)
  ·rintro o I G C m n
   subst I
   refine aN _ m n (ai (aa (vI 0) (ah ?_)))
   obtain rfl:=ae e
   exact aB (aM [(vI 0)] ⟨rfl,trivial⟩)
theorem qz {d:(List Alert)} {e:(List Post)} {r:Int} (a:iM d e=some r) :
  FnM Tryz.prog 54 [(vL Alert.enc d),(vL Post.enc e)] [] (vI r) []:=by
 refine FnM.of_wH ⟨Tryz.prog,13,[],[]⟩ rfl Tryz.func54 rfl rfl (lb_ rfl) (by kernel_rfl) ?_
 unfold iM at a
 refine ai (aa (vI 0) (ah (ak (ai (aa (vL Alert.enc d) ?_)))))
 obtain ⟨b,g,a⟩:=bind_some a
 refine aD (tJ g) rfl hb31 rfl rfl rfl rfl wz (aa (vI b) (ah (ai (aa (vI b) (aa (vB (b != 0)) (ah ?_))))))
 rcases aj a with⟨c,a⟩|⟨c,a⟩
 ·refine aA rfl c (ai (aa (vI b) (aa (vI b) (ah ?_))))
  obtain rfl:=ae a
  exact aB (aM [(vI b)] ⟨rfl,trivial⟩)
 ·refine ay rfl c (av (ai (aa (vL Post.enc e) ?_)))
  obtain ⟨f,h,a⟩:=bind_some a
  refine aD (AZ h) rfl hb82 rfl rfl rfl rfl wz (aa (vI f) (ah ?_))
  obtain rfl:=ae a
  exact aB (aM [(vI f)] ⟨rfl,trivial⟩)
theorem Cu {d:(List Alert)} {e:(List Post)} {f:(List Receipt)} {r:Int} (a:rG d e f=some r) :
  FnM Tryz.prog 45 [(vL Alert.enc d),(vL Post.enc e),(vL Receipt.enc f)] [] (vI r) []:=by
 refine FnM.of_wH ⟨Tryz.prog,16,[],[]⟩ rfl Tryz.func45 rfl rfl (lb_ rfl) (by kernel_rfl) ?_
 unfold rG at a
 refine ai (aa (vI 0) (ah (ak (ai (aa (vL Alert.enc d) (aa (vL Post.enc e) ?_))))))
 obtain ⟨b,h,a⟩:=bind_some a
 refine aD (qz h) rfl hb54 rfl rfl rfl rfl wz (aa (vI b) (ah (ai (aa (vI b) (aa (vB (b != 0)) (ah ?_))))))
 rcases aj a with⟨c,a⟩|⟨c,a⟩
 ·refine aA rfl c (ai (aa (vI b) (aa (vI b) (ah ?_))))
  obtain rfl:=ae a
  exact aB (aM [(vI b)] ⟨rfl,trivial⟩)
 ·refine ay rfl c (av (ai (aa (vL Receipt.enc f) ?_)))
  obtain ⟨g,i,a⟩:=bind_some a
  refine aD (rF i) rfl hb36 rfl rfl rfl rfl wz (aa (vI g) (ah ?_))
  obtain rfl:=ae a
  exact aB (aM [(vI g)] ⟨rfl,trivial⟩)
end Go.Proofs.YtadpbmfnnlkdlacGreatDoor.Law

