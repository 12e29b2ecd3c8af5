/-
 The machine computes these plain functions (written by a program of ours).
-/
import Derived.Test.YtnfojnnfidnikaeGreatDoorFacts
import Derived.Test.YtnfojnnfidnikaeGreatDoorDefs
import Derived.Test.YtnfojnnfidnikaeGreatDoorPf5
open Go Go.Eng Go.Proofs
namespace Go.Proofs.YtnfojnnfidnikaeGreatDoor.Law
set_option maxRecDepth 100000
set_option linter.unusedVariables false
set_option maxHeartbeats 1000000
theorem mM {k:(List Run)} {f:Int} {h:Int} {r:(List Run)} (p:bW k f h=some r) :
  FnM Tryz.prog 210 [(dV (aA 0) 2 k),(vI f),(vI h),(.fn 176 [])] (([]:List Box)++gI 2 Run.enc k) (.tup []) (([]:List Box).map some++gT k (gB 2 Run.enc r)):=by
 refine FnM.of_wHv ⟨Tryz.prog,53,[],[]⟩ rfl Tryz.func210 rfl rfl (lb_ rfl) (by kernel_rfl) ?_
 unfold bW at p
 refine ai (aa (vI f) (aa (vI (w64 (f+1))) (aa (vI (w64 (f+1))) (af ?_))))
 obtain ⟨Z,y,p⟩:=bind_some p
 obtain ⟨Y,y⟩:=bv y
 refine cB (λ(c:(List Run)×Int)=>[]) (λ(c:(List Run)×Int)=>[((aA 0),gB 2 Run.enc c.1)]) (λ(u:Nat)=>(λ(c:(List Run)×Int)=>[(0,(dV (aA 0) 2 c.1)),(1,(vI f)),(2,(vI h)),(3,(.fn 176 [])),(8,(vI c.2))])) (λs=>bQ h f s) Z Y (k,(w64 (f+1))) y rfl (aG rfl) ?_ ?_
 ·rintro ⟨u,c⟩ l
  dsimp only at l
  cases u with
  | zero=>cases l
  | succ u =>
   obtain ⟨L,j,l⟩:=bind_some l
   unfold bQ at j
   refine ak (ai (aa (vI c.2) (aa (vI h) (aa (vB (decide (c.2<h))) (af ?_)))))
   rcases aj j with⟨v,j⟩|⟨v,j⟩
   ·refine ay rfl v (av (ak (aM (ai (aa (vI c.2) (aa (vI c.2) (af ?_)))))))
    obtain ⟨À,z,j⟩:=bind_some j
    obtain ⟨X,z⟩:=bv z
    refine cB (λ(a:(List Run)×Int)=>[(0,(dV (aA 0) 2 a.1)),(1,(vI f)),(2,(vI h)),(3,(.fn 176 [])),(8,(vI c.2))]) (λ(a:(List Run)×Int)=>[((aA 0),gB 2 Run.enc a.1)]) (λ(t:Nat)=>(λ(a:(List Run)×Int)=>[(0,(dV (aA 0) 2 a.1)),(1,(vI f)),(2,(vI h)),(3,(.fn 176 [])),(8,(vI c.2)),(9,(vI a.2))])) (λs=>di f s) À X (c.1,c.2) z rfl (aG rfl) ?_ ?_
    ·rintro ⟨t,a⟩ m
     dsimp only at m
     cases t with
     | zero=>cases m
     | succ t =>
      obtain ⟨L,b,m⟩:=bind_some m
      unfold di at b
      refine ak (ak ?_)
      obtain ⟨Á,e,b⟩:=bind_some b
      refine aR [(0,(dV (aA 0) 2 a.1)),(1,(vI f)),(2,(vI h)),(3,(.fn 176 [])),(8,(vI c.2)),(9,(vI a.2)),(34,(vB Á))] [((aA 0),gB 2 Run.enc a.1)] ?_ ?_
      ·refine bg (aa (vI a.2) (aa (vI f) (aa (vB (decide (a.2>f))) ?_)))
       rcases aj e with⟨w,e⟩|⟨w,e⟩
       ·refine aH rfl w wz (aL (.fn 176 []) wa rfl (aL (dV (aA 0) 2 a.1) wa rfl (aL (vI a.2) wa rfl ?_)))
        obtain ⟨_,C,e⟩:=bind_some e
        refine je oV rfl rfl (ik C) (dN C) wa ?_
        obtain ⟨M,P,e⟩:=bind_some e
        refine kw 8 0 (.inr (by kernel_rfl)) (λ_ _ ag=>trivial) qX AJ rfl rfl P (.d (.agg (Run.enc M))) rfl wa (aL (dV (aA 0) 2 a.1) wa rfl (aL (vI a.2) wa rfl (aL (vI (w64 (a.2-1))) wa rfl ?_)))
        obtain ⟨_,E,e⟩:=bind_some e
        refine je oV rfl rfl (ik E) (dN E) wa ?_
        obtain ⟨N,Q,e⟩:=bind_some e
        refine kw 13 0 (.inr (by kernel_rfl)) (λ_ _ ag=>⟨.inl ⟨rfl,rfl⟩,trivial⟩) qX AJ rfl rfl Q (.d (.agg (Run.enc N))) rfl wa ?_
        obtain ⟨J,O,e⟩:=bind_some e
        refine aB (EM O) rfl hb176 rfl rfl rfl rfl wa (aL (vB (decide (J<0))) wa rfl (aa (vB (decide (J<0))) (af ?_)))
        obtain rfl:=ae e
        exact cu
       ·refine aH rfl w wz (ah (ah (ah (ah (ah (ah (ah (ah (ah (ah (ah (ah (aa (vB false) (af ?_))))))))))))))
        obtain rfl:=ae e
        exact cu
      ·rintro ⟨⟩ _ K B q n
       refine aO _ q n ?_
       rcases aj b with⟨x,b⟩|⟨x,b⟩
       ·refine ay rfl x (av (ak (aM (bg (aa (dV (aA 0) 2 a.1) (aa (vI a.2) (aa (dV (aA 0) 2 a.1) (aa (vI a.2) (aa (vI (w64 (a.2-1))) (aa (dV (aA 0) 2 a.1) (aa (vI a.2) (aa (vI (w64 (a.2-1))) ?_))))))))))))
        obtain ⟨_,F,b⟩:=bind_some b
        refine je oV rfl rfl (ik F) (dN F) wz ?_
        obtain ⟨g,R,b⟩:=bind_some b
        refine kw 9 0 (.inr (by kernel_rfl)) (λ_ _ ag=>trivial) qX AJ rfl rfl R (.d (.agg (Run.enc g))) rfl wz (aa (dV (aA 0) 2 a.1) (aa (vI a.2) ?_))
        obtain ⟨_,G,b⟩:=bind_some b
        refine je oV rfl rfl (ik G) (dN G) wz ?_
        obtain ⟨i,T,b⟩:=bind_some b
        refine kw 13 0 (.inr (by kernel_rfl)) (λ_ _ ag=>⟨.inl ⟨rfl,rfl⟩,trivial⟩) qX AJ rfl rfl T (.d (.agg (Run.enc i))) rfl wz ?_
        obtain ⟨_,H,b⟩:=bind_some b
        refine je oV rfl rfl (ik H) (dN H) wz ?_
        obtain ⟨Â,U,b⟩:=bind_some b
        refine sw 15 (.inr (by kernel_rfl)) (λ_ _ ag=>⟨.inr (.inr (by kernel_rfl)),⟨.inr (.inr (by kernel_rfl)),trivial⟩⟩) 0 qX rfl rfl U g rfl wz (bT (v':=(dV (aA 0) 2 (a.1.set (0+(a.2).toNat) g))) 0 rfl (bC (by simp)) (bT (v':=(dV (aA 0) 2 (a.1.set (0+(a.2).toNat) g))) 37 rfl (bC (by simp)) (bT (v':=(dV (aA 0) 2 (a.1.set (0+(a.2).toNat) g))) 39 rfl (bC (by simp)) (bT (v':=(dV (aA 0) 2 (a.1.set (0+(a.2).toNat) g))) 42 rfl (bC (by simp)) (bT (v':=(dV (aA 0) 2 (a.1.set (0+(a.2).toNat) g))) 47 rfl (bC (by simp)) ?_)))))
        obtain ⟨_,I,b⟩:=bind_some b
        refine je oV rfl rfl (ik I) (dN I) wz ?_
        obtain ⟨Ã,W,b⟩:=bind_some b
        refine sw 17 (.inr (by kernel_rfl)) (λ_ _ ag=>⟨.inr (.inr (by kernel_rfl)),⟨.inr (.inr (by kernel_rfl)),⟨.inr (.inr (by kernel_rfl)),trivial⟩⟩⟩) 0 qX rfl rfl W i rfl wz (bT (v':=(dV (aA 0) 2 ((a.1.set (0+(a.2).toNat) g).set (0+((w64 (a.2-1))).toNat) i))) 0 rfl (bC (by simp)) (bT (v':=(dV (aA 0) 2 ((a.1.set (0+(a.2).toNat) g).set (0+((w64 (a.2-1))).toNat) i))) 37 rfl (bC (by simp)) (bT (v':=(dV (aA 0) 2 ((a.1.set (0+(a.2).toNat) g).set (0+((w64 (a.2-1))).toNat) i))) 39 rfl (bC (by simp)) (bT (v':=(dV (aA 0) 2 ((a.1.set (0+(a.2).toNat) g).set (0+((w64 (a.2-1))).toNat) i))) 42 rfl (bC (by simp)) (bT (v':=(dV (aA 0) 2 ((a.1.set (0+(a.2).toNat) g).set (0+((w64 (a.2-1))).toNat) i))) 47 rfl (bC (by simp)) (af (au (aa (vI a.2) (aa (vI (w64 (a.2-1))) (aa (vI (w64 (a.2-1))) (af ?_)))))))))))
        obtain rfl:=ae b
        exact aV (t,(((a.1.set (0+(a.2).toNat) g).set (0+((w64 (a.2-1))).toNat) i),(w64 (a.2-1)))) m (ls_ _) rfl (aG rfl)
       ·refine ax rfl x (aU ?_)
        obtain rfl:=ae b
        obtain rfl:=ae m
        exact aW ((a.1,a.2)) rfl rfl (aG rfl)
    ·rintro a A K B q n
     subst A
     refine aO _ q n (au (aa (vI c.2) (aa (vI (w64 (c.2+1))) (aa (vI (w64 (c.2+1))) (af ?_)))))
     obtain rfl:=ae j
     exact aV (u,(a.1,(w64 (c.2+1)))) l (ls_ _) rfl (aG rfl)
   ·refine ax rfl v (aU ?_)
    obtain rfl:=ae j
    obtain rfl:=ae l
    exact aW ((c.1,c.2)) rfl rfl (aG rfl)
 ·rintro c A K B q n
  subst A
  show qI _ _ _ _ _ _ _ _
  obtain rfl:=ae p
  exact qz (H0:=([((aA 0),gB 2 Run.enc c.1)]:Hp)) (sl':=envS []) n (oq (bs:=([]:List Box)) (os:=([]:List Box)) (xs:=k) (o:=gB 2 Run.enc c.1) (.inl rfl) [] trivial rfl rfl rfl rfl rfl (by kernel_rfl) jm rfl)
theorem oN {a:(List Run)} {c:Int} {d:Int} {e:Int} {r:(List Run)} (f:dx a c d e=some r) :
  FnM Tryz.prog 199 [(dV (aA 0) 2 a),(vI c),(vI d),(vI e),(.fn 176 [])] (([]:List Box)++gI 2 Run.enc a) (.tup []) (([]:List Box).map some++gT a (gB 2 Run.enc r)):=by
 refine FnM.of_wHv ⟨Tryz.prog,148,[],[]⟩ rfl Tryz.func199 rfl rfl (lb_ rfl) (by kernel_rfl) ?_
 unfold dx at f
 refine ai (aa (vB true) (af (ai (aa (vB true) (af ?_)))))
 obtain ⟨v,m,f⟩:=bind_some f
 obtain ⟨u,m⟩:=bv m
 refine cB (λ(j:Unit)=>[]) (λ(j:Unit)=>[((aA 0),gB 2 Run.enc a)]) (λ(n:Nat)=>(λ(j:Unit)=>[(0,(dV (aA 0) 2 a)),(1,(vI c)),(2,(vI d)),(3,(vI e)),(4,(.fn 176 [])),(10,(vB true)),(11,(vB true))])) (λs=>cZ d c a e s) v u () m rfl (aG rfl) ?_ ?_
 ·rintro ⟨n,j⟩ g
  dsimp only at g
  cases n with
  | zero=>cases g
  | succ n =>
   obtain ⟨x,b,g⟩:=bind_some g
   unfold cZ at b
   refine aM (ai (aa (vI d) (aa (vI c) (aa (vI (w64 (d-c))) (aa (vI (w64 (d-c))) (af (ak (ai (aa (vI (w64 (d-c))) (aa (vB (decide ((w64 (d-c))<=12))) (af ?_)))))))))))
   rcases aj b with⟨k,b⟩|⟨k,b⟩
   ·refine ay rfl k (ai (aa (dV (aA 0) 2 a) (aa (vI c) (aa (vI d) (aa (.fn 176 []) ?_)))))
    obtain ⟨i,t,b⟩:=bind_some b
    obtain ⟨_,h,b⟩:=bind_some b
    replace h:=iY h
    refine jN 0 [] 0 0 il ft (mM t) rfl hb210 rfl rfl rfl (by kernel_rfl) rfl (.inr (.inl rfl)) rfl (by kernel_rfl) (by kernel_rfl) (by kernel_rfl) (by kernel_rfl) rfl (by decide) (by kernel_rfl) jm (qY h) wz ([((aA 0),gB 2 Run.enc i)]:Hp) (by kernel_rfl) (bT (v':=(dV (aA 0) 2 i)) 0 rfl (bC h.symm) (bT (v':=(dV (aA 0) 2 i)) 26 rfl (bC h.symm) (af ?_)))
    obtain rfl:=ae b
    obtain rfl:=ae g
    obtain rfl:=ae f
    exact aC (oq (bs:=([]:List Box)) (os:=([]:List Box)) (xs:=a) (o:=gB 2 Run.enc i) (.inr rfl) [] trivial rfl rfl rfl rfl rfl (by kernel_rfl) jm rfl)
   ·refine ax rfl k (av (ak (ai (aa (vI e) (aa (vB (e==0)) (af ?_))))))
    rcases aj b with⟨l,b⟩|⟨l,b⟩
    ·refine ay rfl l (ai (aa (dV (aA 0) 2 a) (aa (vI c) (aa (vI d) (aa (.fn 176 []) ?_)))))
     cases b
    ·refine ax rfl l (av (ak (ai (aa (vB true) (aa (vB false) (af (ax rfl rfl (av (ai (aa (dV (aA 0) 2 a) (aa (vI c) (aa (vI d) (aa (.fn 176 []) ?_)))))))))))))
     cases b
 ·rintro j p z w y q
  subst p
  show qI _ _ _ _ _ _ _ _
  obtain rfl:=ae f
  exact qz (H0:=([((aA 0),gB 2 Run.enc a)]:Hp)) (sl':=envS []) q (oq (bs:=([]:List Box)) (os:=([]:List Box)) (xs:=a) (o:=gB 2 Run.enc a) (.inl rfl) [] trivial rfl rfl rfl rfl rfl (by kernel_rfl) jm rfl)
theorem ni {a:(List Run)} {r:(List Run)} (b:bX a=some r) :
  FnM Tryz.prog 175 [(dV (aA 0) 2 a),(.fn 176 [])] (([]:List Box)++gI 2 Run.enc a) (.tup []) (([]:List Box).map some++gT a (gB 2 Run.enc r)):=by
 refine FnM.of_wHv ⟨Tryz.prog,14,[],[]⟩ rfl Tryz.func175 rfl rfl (lb_ rfl) (by kernel_rfl) ?_
 unfold bX at b
 refine ai (aa (dV (aA 0) 2 a) (xR BX rfl wz (aa (vI (a.length:Int)) (af (au (aa (dV (aA 0) 2 a) (aa (vI (a.length:Int)) (aa (vI (a.length:Int)) (rY un3 Io rfl wz ?_)))))))))
 obtain ⟨g,e,b⟩:=bind_some b
 refine aB (yw e) rfl hb73 rfl rfl rfl rfl wz (aa (.fn 176 []) ?_)
 obtain ⟨d,f,b⟩:=bind_some b
 obtain ⟨_,c,b⟩:=bind_some b
 replace c:=iY c
 refine jN 0 [] 0 0 il ft (oN f) rfl hb199 rfl rfl rfl (by kernel_rfl) rfl (.inr (.inl rfl)) rfl (by kernel_rfl) (by kernel_rfl) (by kernel_rfl) (by kernel_rfl) rfl (by decide) (by kernel_rfl) jm (qY c) wz ([((aA 0),gB 2 Run.enc d)]:Hp) (by kernel_rfl) (bT (v':=(dV (aA 0) 2 d)) 0 rfl (bC c.symm) (bT (v':=(dV (aA 0) 2 d)) 5 rfl (bC c.symm) (bT (v':=(dV (aA 0) 2 d)) 7 rfl (bC c.symm) (af ?_))))
 show qI _ _ _ _ _ _ _ _
 obtain rfl:=ae b
 exact oq (bs:=([]:List Box)) (os:=([]:List Box)) (xs:=a) (o:=gB 2 Run.enc d) (.inl rfl) [] trivial rfl rfl rfl rfl rfl (by kernel_rfl) jm rfl
theorem Ay {j:(List Rect)} {o:Int} {r:(List Run)} (q:qR j o=some r) :
  FnM Tryz.prog 134 [(vL Rect.enc j),(vI o)] [] (vL Run.enc r) []:=by
 refine FnM.of_wH ⟨Tryz.prog,84,[],[]⟩ rfl Tryz.func134 rfl rfl (lb_ rfl) (by kernel_rfl) ?_
 unfold qR at q
 refine ai (aa .nil (af (ai (aa .nil (af (ak (ai (aa (vL Rect.enc j) (bA yo rfl wz (aa (vI 0) (af (iM (λÛ => ?_)))))))))))))
 obtain ⟨Ü,À,q⟩:=bind_some q
 obtain ⟨Ò,À⟩:=aY À
 refine iw (σ:=(List Run)) (N:=Nm) (λp=>(λ(l:List Run) (e:Nm)=>([(5,(gV e 2 l))]:SL_)) p.1 p.2) (λp=>(λ(l:List Run) (e:Nm)=>([(e,gB 2 Run.enc l)]:Hp)) p.1 p.2) (λ(u:Nat)=>(λp=>(λ(l:List Run) (e:Nm)=>([(1,(vI o)),(5,(gV e 2 l)),(12,(vL Rect.enc j)),(13,(vI (j.length:Int))),(14,(vI (u:Int)))]:SL_)) p.1 p.2)) (λk x s=>rO o k x s) Ü j (([]:List Run),Û) À rfl (aG rfl) ?_ ?_
 ·rintro ⟨u,Ä,l,e⟩ ⟨G,B⟩
  dsimp only at G B
  cases Ä with
  | nil =>
   obtain rfl:=ae G
   refine ai (aa (vB (decide ((u:Int)<(j.length:Int)))) (af ?_))
   refine ak (ax rfl (drop_nil B) (aU ?_))
   exact aW (l,e) rfl rfl (aG rfl)
  | cons b Ä =>
   obtain ⟨Ð,C,G⟩:=bind_some G
   refine ai (aa (vB (decide ((u:Int)<(j.length:Int)))) (af ?_))
   refine ak (ay rfl (bu B) (av ?_))
   unfold rO at C
   refine ak (aM (ai (dC DR rfl rfl (bI B) rfl wz (bE tV Fz rfl (.d (.agg (Rect.enc b))) rfl wz (dA 0 (.inl rfl) L6 rfl wz (λÅ=>jw 0 il ft 1 tV rfl rfl (Rect.v b) rfl wz (af (ak ?_))))))))
   obtain ⟨Þ,J,C⟩:=bind_some C
   refine aR [(1,(vI o)),(5,(gV e 2 l)),(7,(.ref Å 0 0)),(12,(vL Rect.enc j)),(13,(vI (j.length:Int))),(14,(vI (u:Int))),(30,(vB Þ))] [(e,gB 2 Run.enc l),(Å,some (.cells 4 (Rect.v b)))] ?_ ?_
   ·refine au (aK xz rfl 1 rfl wz (aI 0 1 il ft sz3 ag3 rfl rfl (vI b.Y) rfl wz (aa (vI o) (aa (vB (decide (b.Y<=o))) ?_))))
    rcases aj J with⟨R,J⟩|⟨R,J⟩
    ·refine aH rfl R wz (aL (vI o) wa rfl (aK xz rfl 1 rfl wa (aI 0 1 il ft sz3 ag3 rfl rfl (vI b.Y) rfl wa (aK Dl rfl 3 rfl wa (aI 0 1 il ft sz3 ag3 rfl rfl (vI b.H) rfl wa (aL (vI (w64 (b.Y+b.H))) wa rfl (aL (vB (decide (o<(w64 (b.Y+b.H))))) wa rfl (aa (vB (decide (o<(w64 (b.Y+b.H))))) (af ?_)))))))))
     obtain rfl:=ae J
     exact cu
    ·refine aH rfl R wz (ah (ah (ah (ah (ah (ah (ah (aa (vB false) (af ?_)))))))))
     obtain rfl:=ae J
     exact cu
   ·rintro ⟨⟩ _ O F m n
    refine aO _ m n ?_
    obtain ⟨Ç,y,C⟩:=bind_some C
    refine lu (β:=Nm) (λ(L:Nm)=>([(1,(vI o)),(5,(gV L 2 Ç)),(12,(vL Rect.enc j)),(13,(vI (j.length:Int))),(14,(vI (u:Int)))]:SL_)) (λ(L:Nm)=>([(L,gB 2 Run.enc Ç),(Å,some (.cells 4 (Rect.v b)))]:Hp)) (λ_=>True) ?_ ?_
    ·rcases aj y with⟨T,y⟩|⟨T,y⟩
     ·refine ay rfl T (au (aa (gV e 2 l) (aK Bl rfl 0 rfl wz (aI 0 1 il ft sz3 ag3 rfl rfl (vI b.X) rfl wz (aK Bl rfl 0 rfl wz (aI 0 1 il ft sz3 ag3 rfl rfl (vI b.X) rfl wz (aK Gp rfl 2 rfl wz (aI 0 1 il ft sz3 ag3 rfl rfl (vI b.W) rfl wz (aa (vI (w64 (b.X+b.W))) (aL (.d (.agg (Run.enc (⟨b.X,(w64 (b.X+b.W))⟩:Run)))) wz (by kernel_rfl) (eu (([(⟨b.X,(w64 (b.X+b.W))⟩:Run)]:List Run).map Run.enc) oV Qa rfl rfl rfl rfl rfl wz ?_)))))))))))
      obtain ⟨Î,Ø,y⟩:=bind_some y
      refine jF 0 il ft (i:=0) Fh Fh qX z210 rfl (by decide) Qp (by decide) (λ_=>rfl) rfl rfl rfl Ø wz (λÌ=>aa (gV Ì 2 Î) (af ?_))
      obtain rfl:=ae y
      exact aW Ì trivial rfl (aG rfl)
     ·refine ax rfl T (av ?_)
      obtain rfl:=ae y
      exact aW e trivial rfl (aG rfl)
    ·rintro L _ O F m n
     refine aO _ m n (au (dH (bz B Ò) wz rfl (aa (vI ((u+1:Nat):Int)) (af ?_))))
     obtain rfl:=ae C
     exact aV (u+1,Ä,Ç,L) ⟨G,aX B⟩ (ls_ _) rfl (aG rfl)
 ·rintro ⟨l,e⟩ Â O F m n
  subst Â
  refine aO _ m n (ai (aa (gV e 2 l) ?_))
  obtain ⟨g,Ó,q⟩:=bind_some q
  obtain ⟨_,K,q⟩:=bind_some q
  replace K:=iY K
  refine jN 0 [] 0 0 il ft (ni Ó) rfl hb175 rfl rfl rfl (by kernel_rfl) rfl (.inl rfl) rfl (by kernel_rfl) (by kernel_rfl) (by kernel_rfl) (by kernel_rfl) rfl (by decide) (by kernel_rfl) jm (qY K) wz ([(e,gB 2 Run.enc g)]:Hp) (by kernel_rfl) (bT (v':=(gV e 2 g)) 43 rfl (jg K.symm) (bT (v':=(gV e 2 g)) 5 rfl (jg K.symm) (af (ai (aa .nil (af (ak (ai (aa (gV e 2 g) (CB BX rfl wz (aa (vI 0) (af (iq 0 rfl (cO 5 0 rfl rfl (cO 43 0 rfl rfl (cO 45 0 rfl rfl (iM (λÚ => ?_))))))))))))))))))
  obtain ⟨Ý,Á,q⟩:=bind_some q
  obtain ⟨Ñ,Á⟩:=aY Á
  refine iw (σ:=(List Run)) (N:=Nm) (λp=>(λ(a:List Run) (c:Nm)=>([(8,(gV c 2 a))]:SL_)) p.1 p.2) (λp=>(λ(a:List Run) (c:Nm)=>([(e,gF 2 Run.enc g),(c,gB 2 Run.enc a)]:Hp)) p.1 p.2) (λ(w:Nat)=>(λp=>(λ(a:List Run) (c:Nm)=>([(8,(gV c 2 a)),(45,(vL Run.enc g)),(46,(vI (g.length:Int))),(47,(vI (w:Int)))]:SL_)) p.1 p.2)) (λk x s=>rW k x s) Ý g (([]:List Run),Ú) Á rfl (aG rfl) ?_ ?_
  ·rintro ⟨w,Ã,a,c⟩ ⟨I,A⟩
   dsimp only at I A
   cases Ã with
   | nil =>
    obtain rfl:=ae I
    refine ai (aa (vB (decide ((w:Int)<(g.length:Int)))) (af ?_))
    refine ak (ax rfl (drop_nil A) (aU ?_))
    exact aW (a,c) rfl rfl (aG rfl)
   | cons f Ã =>
    obtain ⟨Ð,E,I⟩:=bind_some I
    refine ai (aa (vB (decide ((w:Int)<(g.length:Int)))) (af ?_))
    refine ak (ay rfl (bu A) (av ?_))
    unfold rW at E
    refine ak (aM (ai (dC oV rfl rfl (bI A) rfl wz (bE qX AJ rfl (.d (.agg (Run.enc f))) rfl wz (dA 0 (.inl rfl) z210 rfl wz (λÆ=>jw 0 il ft 2 qX rfl rfl [(vI f.f_from),(vI f.f_to)] rfl wz (af (ai (aa (gV c 2 a) (CB BX rfl wz (aa (vI (w64 ((a.length:Int)-1))) (aa (vI (w64 ((a.length:Int)-1))) (af (ak ?_))))))))))))))
    obtain ⟨ß,t,E⟩:=bind_some E
    refine aR [(8,(gV c 2 a)),(10,(.ref Æ 0 0)),(11,(vI (w64 ((a.length:Int)-1)))),(45,(vL Run.enc g)),(46,(vI (g.length:Int))),(47,(vI (w:Int))),(65,(vB ß))] [(e,gF 2 Run.enc g),(c,gB 2 Run.enc a),(Æ,some (.cells 2 [(vI f.f_from),(vI f.f_to)]))] ?_ ?_
    ·refine bg (aa (vI (w64 ((a.length:Int)-1))) (aa (vB (decide ((w64 ((a.length:Int)-1))>=0))) ?_))
     rcases aj t with⟨U,t⟩|⟨U,t⟩
     ·refine aH rfl U wz (aK nX rfl 0 rfl wa (aI 4 2 (.inr (by kernel_rfl)) (λ_ _ ag=>trivial) sz3 ag3 rfl rfl (vI f.f_from) rfl wa (aL (gV c 2 a) wa rfl (aL (vI (w64 ((a.length:Int)-1))) wa rfl ?_))))
      obtain ⟨_,É,t⟩:=bind_some t
      refine yK oV rfl rfl (ik É) (dN É) wa (aK vz rfl 1 rfl wa ?_)
      obtain ⟨Q,Ô,t⟩:=bind_some t
      refine kw 9 1 (.inr (by kernel_rfl)) (λ_ _ ag=>⟨.inl ⟨rfl,rfl⟩,trivial⟩) sz3 ag3 rfl rfl Ô (vI Q.f_to) rfl wa (aL (vB (decide (f.f_from<=Q.f_to))) wa rfl (aa (vB (decide (f.f_from<=Q.f_to))) (af ?_)))
      obtain rfl:=ae t
      exact cu
     ·refine aH rfl U wz (ah (ah (ah (ah (ah (ah (ah (ah (aa (vB false) (af ?_))))))))))
      obtain rfl:=ae t
      exact cu
    ·rintro ⟨⟩ _ O F m n
     refine aO _ m n ?_
     obtain ⟨È,h,E⟩:=bind_some E
     refine lu (β:=Nm) (λ(M:Nm)=>([(8,(gV M 2 È)),(45,(vL Run.enc g)),(46,(vI (g.length:Int))),(47,(vI (w:Int)))]:SL_)) (λ(M:Nm)=>([(e,gF 2 Run.enc g),(M,gB 2 Run.enc È),(Æ,some (.cells 2 [(vI f.f_from),(vI f.f_to)]))]:Hp)) (λ_=>True) ?_ ?_
     ·rcases aj h with⟨Z,h⟩|⟨Z,h⟩
      ·refine ay rfl Z (bg (aa (gV c 2 a) (aa (vI (w64 ((a.length:Int)-1))) (aa (gV c 2 a) (aa (vI (w64 ((a.length:Int)-1))) ?_)))))
       obtain ⟨_,Ê,h⟩:=bind_some h
       refine yK oV rfl rfl (ik Ê) (dN Ê) wz (aK vz rfl 1 rfl wz ?_)
       obtain ⟨z,Õ,h⟩:=bind_some h
       refine kw 6 1 (.inr (by kernel_rfl)) (λ_ _ ag=>trivial) sz3 ag3 rfl rfl Õ (vI z.f_to) rfl wz (aK vz rfl 1 rfl wz (aI 8 2 (.inr (by kernel_rfl)) (λ_ _ ag=>⟨.inl ⟨rfl,rfl⟩,trivial⟩) sz3 ag3 rfl rfl (vI f.f_to) rfl wz (uE (vI (jI z.f_to f.f_to)) rfl (.inr rfl) wz ?_)))
       obtain ⟨_,Ë,h⟩:=bind_some h
       refine yK oV rfl rfl (ik Ë) (dN Ë) wz (aK vz rfl 1 rfl wz ?_)
       obtain ⟨P,Ö,h⟩:=bind_some h
       refine sw 12 (.inr (by kernel_rfl)) (λ_ _ ag=>⟨.inr (.inr (by kernel_rfl)),⟨.inr (.inr (by kernel_rfl)),trivial⟩⟩) 1 sz3 rfl rfl Ö (⟨P.f_from,(jI z.f_to f.f_to)⟩:Run) rfl wz (bT (v':=(gV c 2 (a.set (0+((w64 ((a.length:Int)-1))).toNat) (⟨P.f_from,(jI z.f_to f.f_to)⟩:Run)))) 8 rfl (jg (by simp)) (bT (v':=(gV c 2 (a.set (0+((w64 ((a.length:Int)-1))).toNat) (⟨P.f_from,(jI z.f_to f.f_to)⟩:Run)))) 66 rfl (jg (by simp)) (bT (v':=(gV c 2 (a.set (0+((w64 ((a.length:Int)-1))).toNat) (⟨P.f_from,(jI z.f_to f.f_to)⟩:Run)))) 68 rfl (jg (by simp)) (af ?_))))
       obtain rfl:=ae h
       exact aW c trivial rfl (aG rfl)
      ·refine ax rfl Z (au (aa (gV c 2 a) (aI 0 2 il ft qX AJ rfl rfl (.d (.agg (Run.enc f))) rfl wz (eu (([f]:List Run).map Run.enc) oV Qa rfl rfl rfl rfl rfl wz ?_))))
       obtain ⟨Ï,Ù,h⟩:=bind_some h
       refine jF 0 il ft (i:=1) Fh Fh qX z210 rfl (by decide) Qp (by decide) (λ_=>rfl) rfl rfl rfl Ù wz (λÍ=>aa (gV Í 2 Ï) (af ?_))
       obtain rfl:=ae h
       exact aW Í trivial rfl (aG rfl)
     ·rintro M _ O F m n
      refine aO _ m n (au (dH (bz A Ñ) wz rfl (aa (vI ((w+1:Nat):Int)) (af ?_))))
      obtain rfl:=ae E
      exact aV (w+1,Ã,È,M) ⟨I,aX A⟩ (ls_ _) rfl (aG rfl)
  ·rintro ⟨a,c⟩ Â O F m n
   subst Â
   refine aO _ m n (ai (aa (gV c 2 a) (aa (gV c 2 a) (af (iq 1 rfl (cO 4 1 rfl rfl (cO 8 1 rfl rfl (cO 83 1 rfl rfl ?_))))))))
   obtain rfl:=ae q
   exact aC (aN [(vL Run.enc a)] ⟨rfl,trivial⟩)
theorem Hm {c:(List Run)} {f:(List Run)} {r:(List Run)} (O:uz c f=some r) :
  FnM Tryz.prog 133 [(vL Run.enc c),(vL Run.enc f)] [] (vL Run.enc r) []:=by
 refine FnM.of_wH ⟨Tryz.prog,88,[],[]⟩ rfl Tryz.func133 rfl rfl (lb_ rfl) (by kernel_rfl) ?_
 unfold uz at O
 refine ai (aa .nil (af (ai (aa .nil (af (ai (aa (vI 0) (af (ak (ai (aa (vL Run.enc c) (bA BX rfl wz (aa (vI 0) (af (iM (λÔ => ?_))))))))))))))))
 obtain ⟨Ø,Á,O⟩:=bind_some O
 obtain ⟨Ì,Á⟩:=aY Á
 refine iw (σ:=(List Run)×Int) (N:=Nm) (λp=>(λ(g:(List Run)×Int) (h:Nm)=>([(5,(gV h 2 g.1))]:SL_)) p.1 p.2) (λp=>(λ(g:(List Run)×Int) (h:Nm)=>([(h,gB 2 Run.enc g.1)]:Hp)) p.1 p.2) (λ(l:Nat)=>(λp=>(λ(g:(List Run)×Int) (h:Nm)=>([(1,(vL Run.enc f)),(5,(gV h 2 g.1)),(6,(vI g.2)),(10,(vL Run.enc c)),(11,(vI (c.length:Int))),(12,(vI (l:Int)))]:SL_)) p.1 p.2)) (λk x s=>oz f k x s) Ø c ((([]:List Run),0),Ô) Á rfl (aG rfl) ?_ ?_
 ·rintro ⟨l,Ä,g,h⟩ ⟨G,B⟩
  dsimp only at G B
  cases Ä with
  | nil =>
   obtain rfl:=ae G
   refine ai (aa (vB (decide ((l:Int)<(c.length:Int)))) (af ?_))
   refine ak (ax rfl (drop_nil B) (aU ?_))
   exact aW (g,h) rfl rfl (aG rfl)
  | cons b Ä =>
   obtain ⟨Ç,u,G⟩:=bind_some G
   refine ai (aa (vB (decide ((l:Int)<(c.length:Int)))) (af ?_))
   refine ak (ay rfl (bu B) (av ?_))
   unfold oz at u
   refine ak (aM (ai (dC oV rfl rfl (bI B) rfl wz (bE qX AJ rfl (.d (.agg (Run.enc b))) rfl wz (dA 0 (.inl rfl) z210 rfl wz (λq=>jw 0 il ft 1 qX rfl rfl [(vI b.f_from),(vI b.f_to)] rfl wz (af (ak ?_))))))))
   obtain ⟨Ù,Â,u⟩:=bind_some u
   obtain ⟨Ö,Â⟩:=bv Â
   refine cB (λ(e:Int)=>[(1,(vL Run.enc f)),(5,(gV h 2 g.1)),(6,(vI e)),(8,(.ref q 0 0)),(10,(vL Run.enc c)),(11,(vI (c.length:Int))),(12,(vI (l:Int)))]) (λ(e:Int)=>[(h,gB 2 Run.enc g.1),(q,some (.cells 2 [(vI b.f_from),(vI b.f_to)]))]) (λ(P:Nat)=>(λ(e:Int)=>[(1,(vL Run.enc f)),(5,(gV h 2 g.1)),(6,(vI e)),(8,(.ref q 0 0)),(10,(vL Run.enc c)),(11,(vI (c.length:Int))),(12,(vI (l:Int)))])) (λs=>rU f b s) Ù Ö g.2 Â rfl (aG rfl) ?_ ?_
   ·rintro ⟨P,e⟩ C
    dsimp only at C
    cases P with
    | zero=>cases C
    | succ P =>
     obtain ⟨Ç,v,C⟩:=bind_some C
     unfold rU at v
     refine ak (ak ?_)
     obtain ⟨Û,w,v⟩:=bind_some v
     refine aR [(1,(vL Run.enc f)),(5,(gV h 2 g.1)),(6,(vI e)),(8,(.ref q 0 0)),(10,(vL Run.enc c)),(11,(vI (c.length:Int))),(12,(vI (l:Int))),(29,(vB Û))] [(h,gB 2 Run.enc g.1),(q,some (.cells 2 [(vI b.f_from),(vI b.f_to)]))] ?_ ?_
     ·refine bg (aa (vI e) (aa (vL Run.enc f) (bA BX rfl wz (aa (vB (decide (e<(f.length:Int)))) ?_))))
      rcases aj w with⟨U,w⟩|⟨U,w⟩
      ·refine aH rfl U wz (aL (vL Run.enc f) wa rfl (aL (vI e) wa rfl ?_))
       obtain ⟨R,Í,w⟩:=bind_some w
       refine dC oV rfl rfl Í rfl wa (qh vz rfl [.int .i64 R.f_to] rfl rfl wa (bE sz3 ag3 rfl (vI R.f_to) rfl wa (aK nX rfl 0 rfl wa (aI 11 1 (.inr (by kernel_rfl)) (λ_ _ ag=>trivial) sz3 ag3 rfl rfl (vI b.f_from) rfl wa (aL (vB (decide (R.f_to<=b.f_from))) wa rfl (aa (vB (decide (R.f_to<=b.f_from))) (af ?_)))))))
       obtain rfl:=ae w
       exact cu
      ·refine aH rfl U wz (ah (ah (ah (ah (ah (ah (ah (ah (aa (vB false) (af ?_))))))))))
       obtain rfl:=ae w
       exact cu
     ·rintro ⟨⟩ _ F A n o
      refine aO _ n o ?_
      rcases aj v with⟨W,v⟩|⟨W,v⟩
      ·refine ay rfl W (av (aM (au (aa (vI e) (aa (vI (w64 (e+1))) (aa (vI (w64 (e+1))) (af ?_)))))))
       obtain rfl:=ae v
       exact aV (P,(w64 (e+1))) C (ls_ _) rfl (aG rfl)
      ·refine ax rfl W (aU ?_)
       obtain rfl:=ae v
       obtain rfl:=ae C
       exact aW (e) rfl rfl (aG rfl)
   ·rintro e H F A n o
    subst H
    refine aO _ n o (ak (ai (aa (vI e) (aa (vI e) (af ?_)))))
    obtain ⟨Ú,Ã,u⟩:=bind_some u
    obtain ⟨Õ,Ã⟩:=bv Ã
    refine yG (σ:=(List Run)×Int×Int) (N:=Nm) (λp=>(λ(a:(List Run)×Int×Int) (m:Nm)=>([(1,(vL Run.enc f)),(5,(gV m 2 a.1)),(6,(vI e)),(8,(.ref q 0 0)),(10,(vL Run.enc c)),(11,(vI (c.length:Int))),(12,(vI (l:Int)))]:SL_)) p.1 p.2) (λp=>(λ(a:(List Run)×Int×Int) (m:Nm)=>([(m,gB 2 Run.enc a.1),(q,some (.cells 2 [(vI a.2.2),(vI b.f_to)]))]:Hp)) p.1 p.2) (λ(Q:Nat)=>(λp=>(λ(a:(List Run)×Int×Int) (m:Nm)=>([(1,(vL Run.enc f)),(5,(gV m 2 a.1)),(6,(vI e)),(8,(.ref q 0 0)),(9,(vI a.2.1)),(10,(vL Run.enc c)),(11,(vI (c.length:Int))),(12,(vI (l:Int)))]:SL_)) p.1 p.2)) (λs=>rT f b s) Ú Õ ((g.1,e,b.f_from),h) Ã rfl (aG rfl) ?_ ?_
    ·rintro ⟨Q,a,m⟩ E
     dsimp only at E
     cases Q with
     | zero=>cases E
     | succ Q =>
      obtain ⟨Ç,j,E⟩:=bind_some E
      unfold rT at j
      refine ak (ak ?_)
      obtain ⟨Ü,y,j⟩:=bind_some j
      refine aR [(1,(vL Run.enc f)),(5,(gV m 2 a.1)),(6,(vI e)),(8,(.ref q 0 0)),(9,(vI a.2.1)),(10,(vL Run.enc c)),(11,(vI (c.length:Int))),(12,(vI (l:Int))),(46,(vB Ü))] [(m,gB 2 Run.enc a.1),(q,some (.cells 2 [(vI a.2.2),(vI b.f_to)]))] ?_ ?_
      ·refine bg (aa (vI a.2.1) (aa (vL Run.enc f) (bA BX rfl wz (aa (vB (decide (a.2.1<(f.length:Int)))) ?_))))
       rcases aj y with⟨X,y⟩|⟨X,y⟩
       ·refine aH rfl X wz (aL (vL Run.enc f) wa rfl (aL (vI a.2.1) wa rfl ?_))
        obtain ⟨K,Î,y⟩:=bind_some y
        refine dC oV rfl rfl Î rfl wa (qh nX rfl [.int .i64 K.f_from,.int .i64 K.f_to] rfl rfl wa (bE sz3 ag3 rfl (vI K.f_from) rfl wa (aK vz rfl 1 rfl wa (aI 11 1 (.inr (by kernel_rfl)) (λ_ _ ag=>trivial) sz3 ag3 rfl rfl (vI b.f_to) rfl wa (aL (vB (decide (K.f_from<b.f_to))) wa rfl (aa (vB (decide (K.f_from<b.f_to))) (af ?_)))))))
        obtain rfl:=ae y
        exact cu
       ·refine aH rfl X wz (ah (ah (ah (ah (ah (ah (ah (ah (aa (vB false) (af ?_))))))))))
        obtain rfl:=ae y
        exact cu
      ·rintro ⟨⟩ _ F A n o
       refine aO _ n o ?_
       rcases aj j with⟨Y,j⟩|⟨Y,j⟩
       ·refine ay rfl Y (av (ak (aM (ak (ak (bg (aa (vL Run.enc f) (aa (vI a.2.1) ?_))))))))
        obtain ⟨T,Ï,j⟩:=bind_some j
        refine dC oV rfl rfl Ï rfl wz (qh nX rfl [.int .i64 T.f_from,.int .i64 T.f_to] rfl rfl wz (bE sz3 ag3 rfl (vI T.f_from) rfl wz (aK nX rfl 0 rfl wz (aI 6 1 (.inr (by kernel_rfl)) (λ_ _ ag=>trivial) sz3 ag3 rfl rfl (vI a.2.2) rfl wz (aa (vB (decide (T.f_from>a.2.2))) (af ?_))))))
        obtain ⟨Å,t,j⟩:=bind_some j
        refine lu (β:=Nm) (λ(I:Nm)=>([(1,(vL Run.enc f)),(5,(gV I 2 Å)),(6,(vI e)),(8,(.ref q 0 0)),(9,(vI a.2.1)),(10,(vL Run.enc c)),(11,(vI (c.length:Int))),(12,(vI (l:Int)))]:SL_)) (λ(I:Nm)=>([(I,gB 2 Run.enc Å),(q,some (.cells 2 [(vI a.2.2),(vI b.f_to)]))]:Hp)) (λ_=>True) ?_ ?_
        ·rcases aj t with⟨Z,t⟩|⟨Z,t⟩
         ·refine ay rfl Z (bg (aa (gV m 2 a.1) (aK nX rfl 0 rfl wz (aI 2 1 (.inr (by kernel_rfl)) (λ_ _ ag=>trivial) sz3 ag3 rfl rfl (vI a.2.2) rfl wz (aa (vL Run.enc f) (aa (vI a.2.1) ?_))))))
          obtain ⟨L,Ð,t⟩:=bind_some t
          refine dC oV rfl rfl Ð rfl wz (qh nX rfl [.int .i64 L.f_from,.int .i64 L.f_to] rfl rfl wz (bE sz3 ag3 rfl (vI L.f_from) rfl wz (aL (.d (.agg (Run.enc (⟨a.2.2,L.f_from⟩:Run)))) wz (by kernel_rfl) (eu (([(⟨a.2.2,L.f_from⟩:Run)]:List Run).map Run.enc) oV Qa rfl rfl rfl rfl rfl wz ?_))))
          obtain ⟨Ê,Ò,t⟩:=bind_some t
          refine jF 10 (.inr (by kernel_rfl)) (λ_ _ ag=>⟨.inr (.inr (by kernel_rfl)),trivial⟩) (i:=0) Fh Fh qX z210 rfl (by decide) Qp (by decide) (λ_=>rfl) rfl rfl rfl Ò wz (λÈ=>aa (gV È 2 Ê) (af ?_))
          obtain rfl:=ae t
          exact aW È trivial rfl (aG rfl)
         ·refine ax rfl Z (av ?_)
          obtain rfl:=ae t
          exact aW m trivial rfl (aG rfl)
        ·rintro I _ F A n o
         refine aO _ n o (bg (aK nX rfl 0 rfl wz (aI 1 1 (.inr (by kernel_rfl)) (λ_ _ ag=>trivial) sz3 ag3 rfl rfl (vI a.2.2) rfl wz (aa (vL Run.enc f) (aa (vI a.2.1) ?_)))))
         obtain ⟨M,Ñ,j⟩:=bind_some j
         refine dC oV rfl rfl Ñ rfl wz (qh vz rfl [.int .i64 M.f_to] rfl rfl wz (bE sz3 ag3 rfl (vI M.f_to) rfl wz (uE (vI (jI a.2.2 M.f_to)) rfl (.inr rfl) wz (aK nX rfl 0 rfl wz (jw 9 (.inr (by kernel_rfl)) (λ_ _ ag=>⟨.inr (.inr (by kernel_rfl)),trivial⟩) 1 sz3 rfl rfl [(vI (jI a.2.2 M.f_to)),(vI b.f_to)] rfl wz (af (au (aa (vI a.2.1) (aa (vI (w64 (a.2.1+1))) (aa (vI (w64 (a.2.1+1))) (af ?_)))))))))))
         obtain rfl:=ae j
         exact aV (Q,(Å,(w64 (a.2.1+1)),(jI a.2.2 M.f_to)),I) E (ls_ _) rfl (aG rfl)
       ·refine ax rfl Y (aU ?_)
        obtain rfl:=ae j
        obtain rfl:=ae E
        exact aW ((a.1,a.2.1,a.2.2),m) rfl rfl (aG rfl)
    ·rintro ⟨a,m⟩ H F A n o
     subst H
     refine aO _ n o (ai (aK nX rfl 0 rfl wz (aI 0 1 il ft sz3 ag3 rfl rfl (vI a.2.2) rfl wz (aK vz rfl 1 rfl wz (aI 0 1 il ft sz3 ag3 rfl rfl (vI b.f_to) rfl wz (aa (vB (decide (a.2.2<b.f_to))) (af ?_)))))))
     obtain ⟨Æ,z,u⟩:=bind_some u
     refine lu (β:=Nm) (λ(J:Nm)=>([(1,(vL Run.enc f)),(5,(gV J 2 Æ)),(6,(vI e)),(10,(vL Run.enc c)),(11,(vI (c.length:Int))),(12,(vI (l:Int)))]:SL_)) (λ(J:Nm)=>([(J,gB 2 Run.enc Æ),(q,some (.cells 2 [(vI a.2.2),(vI b.f_to)]))]:Hp)) (λ_=>True) ?_ ?_
     ·rcases aj z with⟨À,z⟩|⟨À,z⟩
      ·refine ay rfl À (au (aa (gV m 2 a.1) (aI 0 1 il ft qX AJ rfl rfl (.d (.agg (Run.enc (⟨a.2.2,b.f_to⟩:Run)))) rfl wz (eu (([(⟨a.2.2,b.f_to⟩:Run)]:List Run).map Run.enc) oV Qa rfl rfl rfl rfl rfl wz ?_))))
       obtain ⟨Ë,Ó,z⟩:=bind_some z
       refine jF 0 il ft (i:=0) Fh Fh qX z210 rfl (by decide) Qp (by decide) (λ_=>rfl) rfl rfl rfl Ó wz (λÉ=>aa (gV É 2 Ë) (af ?_))
       obtain rfl:=ae z
       exact aW É trivial rfl (aG rfl)
      ·refine ax rfl À (av ?_)
       obtain rfl:=ae z
       exact aW m trivial rfl (aG rfl)
     ·rintro J _ F A n o
      refine aO _ n o (au (dH (bz B Ì) wz rfl (aa (vI ((l+1:Nat):Int)) (af ?_))))
      obtain rfl:=ae u
      exact aV (l+1,Ä,(Æ,e),J) ⟨G,aX B⟩ (ls_ _) rfl (aG rfl)
 ·rintro ⟨g,h⟩ H F A n o
  subst H
  refine aO _ n o (ai (aa (gV h 2 g.1) (aa (gV h 2 g.1) (af (iq 0 rfl (cO 4 0 rfl rfl (cO 5 0 rfl rfl (cO 87 0 rfl rfl ?_))))))))
  obtain rfl:=ae O
  exact aC (aN [(vL Run.enc g.1)] ⟨rfl,trivial⟩)
theorem pg {s1_1:(List Run)} {s2_2:(List Run)} {r:Bool} (b:eT s1_1 s2_2=some r) :
  FnM Tryz.prog 135 [(vL Run.enc s1_1),(vL Run.enc s2_2)] [] (vB r) []:=by
 refine FnM.of_wH ⟨Tryz.prog,26,[],[]⟩ rfl Tryz.func135 rfl rfl (lb_ rfl) (by kernel_rfl) ?_
 unfold eT at b
 refine ai (aa (vB false) (af (ak (ai (aa (vL Run.enc s1_1) (bA BX rfl wz (aa (vL Run.enc s2_2) (bA BX rfl wz (aa (vB ((s1_1.length:Int) != (s2_2.length:Int))) (af ?_))))))))))
 rcases aj b with⟨i,b⟩|⟨i,b⟩
 ·refine ay rfl i (ai (aa (vB false) (af ?_)))
  obtain rfl:=ae b
  exact aC (aN [(vB false)] ⟨rfl,trivial⟩)
 ·refine ax rfl i (av (ak (ai (aa (vL Run.enc s1_1) (bA BX rfl wz (aa (vI 0) (af ?_)))))))
  obtain ⟨v,j,b⟩:=bind_some b
  obtain ⟨o,j⟩:=aY j
  refine bN (λ(g:Unit)=>[]) (λ(g:Unit)=>[]) (λ(a:Nat)=>(λ(g:Unit)=>[(0,(vL Run.enc s1_1)),(1,(vL Run.enc s2_2)),(12,(vI (s1_1.length:Int))),(13,(vI (a:Int)))])) (λk x s=>gG s2_2 k x s) v s1_1 () j rfl (aG rfl) ?_ ?_
  ·rintro ⟨a,l,g⟩ ⟨f,e⟩
   dsimp only at f e
   cases l with
   | nil =>
    obtain rfl:=ae f
    refine ai (aa (vB (decide ((a:Int)<(s1_1.length:Int)))) (af ?_))
    refine ak (ax rfl (drop_nil e) (aU ?_))
    exact aW (g) rfl rfl (aG rfl)
   | cons m l =>
    obtain ⟨y,c,f⟩:=bind_some f
    refine ai (aa (vB (decide ((a:Int)<(s1_1.length:Int)))) (af ?_))
    refine ak (ay rfl (bu e) (av ?_))
    unfold gG at c
    refine ak (aM (ai (aa (vI (a:Int)) (aa (vI (a:Int)) (af (ak (bg (aa (vL Run.enc s1_1) (aa (vI (a:Int)) (dC oV rfl rfl (bI e) rfl wz (bE qX AJ rfl (.d (.agg (Run.enc m))) rfl wz (aa (vL Run.enc s2_2) (aa (vI (a:Int)) ?_)))))))))))))
    obtain ⟨n,u,c⟩:=bind_some c
    refine dC oV rfl rfl u rfl wz (bE qX AJ rfl (.d (.agg (Run.enc n))) rfl wz (aL (vB (!((m.f_from==n.f_from)&&((m.f_to==n.f_to)&&true)))) wz (by kernel_rfl) (af ?_)))
    rcases aj c with⟨h,c⟩|⟨h,c⟩
    ·refine ay rfl h (ai (aa (vB false) (af ?_)))
     obtain rfl:=ae c
     obtain rfl:=ae f
     obtain rfl:=ae b
     exact aC (aN [(vB false)] ⟨rfl,trivial⟩)
    ·refine ax rfl h (av (au (dH (bz e o) wz rfl (aa (vI ((a+1:Nat):Int)) (af ?_)))))
     obtain rfl:=ae c
     exact aV (a+1,l,()) ⟨f,aX e⟩ (ls_ _) rfl (aG rfl)
  ·rintro g p z w q t
   subst p
   refine aO _ q t (ai (aa (vB true) (af ?_)))
   obtain rfl:=ae b
   exact aC (aN [(vB true)] ⟨rfl,trivial⟩)
theorem EA {m:(List Rect)} {n:(List Rect)} {r:(List Rect)} (g:qj m n=some r) :
  FnM Tryz.prog 85 [(vL Rect.enc m),(vL Rect.enc n)] [] (vL Rect.enc r) []:=by
 refine FnM.of_wH ⟨Tryz.prog,88,[],[]⟩ rfl Tryz.func85 rfl rfl (lb_ rfl) (by kernel_rfl) ?_
 unfold qj at g
 refine ai (aa .nil (af (ai (aa .nil (af (ak (ai (aa (vL Rect.enc m) (aa (vL Rect.enc n) (eu (([m,n]:List (List Rect)).map (eL Rect.enc)) Sa ez247 rfl rfl rfl rfl rfl wz ?_))))))))))
 obtain ⟨O,Ï,g⟩:=bind_some g
 refine aB (qJ Ï) rfl hb131 rfl rfl rfl rfl wz (bA yo rfl wz (aa (vI 0) (af (iM (λÖ => ?_)))))
 obtain ⟨Ù,Z,g⟩:=bind_some g
 obtain ⟨Ì,Z⟩:=aY Z
 refine iw (σ:=(List Int)) (N:=Nm) (λp=>(λ(t:List Int) (c:Nm)=>([(0,(vL Rect.enc m)),(1,(vL Rect.enc n)),(5,(gV c 1 t))]:SL_)) p.1 p.2) (λp=>(λ(t:List Int) (c:Nm)=>([(c,gB 1 eI t)]:Hp)) p.1 p.2) (λ(G:Nat)=>(λp=>(λ(t:List Int) (c:Nm)=>([(0,(vL Rect.enc m)),(1,(vL Rect.enc n)),(5,(gV c 1 t)),(19,(vL Rect.enc O)),(20,(vI (O.length:Int))),(21,(vI (G:Int)))]:SL_)) p.1 p.2)) (λk x s=>pI k x s) Ù O (([]:List Int),Ö) Z rfl (aG rfl) ?_ ?_
 ·rintro ⟨G,Ã,t,c⟩ ⟨J,E⟩
  dsimp only at J E
  cases Ã with
  | nil =>
   obtain rfl:=ae J
   refine ai (aa (vB (decide ((G:Int)<(O.length:Int)))) (af ?_))
   refine ak (ax rfl (drop_nil E) (aU ?_))
   exact aW (t,c) rfl rfl (aG rfl)
  | cons w Ã =>
   obtain ⟨Ç,P,J⟩:=bind_some J
   refine ai (aa (vB (decide ((G:Int)<(O.length:Int)))) (af ?_))
   refine ak (ay rfl (bu E) (av ?_))
   unfold pI at P
   refine ak (aM (ai (dC DR rfl rfl (bI E) rfl wz (bE tV Fz rfl (.d (.agg (Rect.enc w))) rfl wz (dA 0 (.inl rfl) L6 rfl wz (λÝ=>jw 0 il ft 1 tV rfl rfl (Rect.v w) rfl wz (af (au (aa (gV c 1 t) (aK xz rfl 1 rfl wz (aI 0 1 il ft sz3 ag3 rfl rfl (vI w.Y) rfl wz (aK xz rfl 1 rfl wz (aI 0 1 il ft sz3 ag3 rfl rfl (vI w.Y) rfl wz (aK Dl rfl 3 rfl wz (aI 0 1 il ft sz3 ag3 rfl rfl (vI w.H) rfl wz (aa (vI (w64 (w.Y+w.H))) (eu (([w.Y,(w64 (w.Y+w.H))]:List Int).map eI) pQ zP rfl rfl rfl rfl rfl wz ?_)))))))))))))))))
   obtain ⟨Å,Ô,P⟩:=bind_some P
   refine jF 0 il ft (i:=0) Hy Hy sz3 z3 rfl (by decide) by3 (by decide) (λ_=>rfl) rfl rfl rfl Ô wz (λÉ=>aa (gV É 1 Å) (af (au (dH (bz E Ì) wz rfl (aa (vI ((G+1:Nat):Int)) (af ?_))))))
   obtain rfl:=ae P
   exact aV (G+1,Ã,Å,É) ⟨J,aX E⟩ (ls_ _) rfl (aG rfl)
 ·rintro ⟨t,c⟩ L Ä U z A
  subst L
  refine aO _ z A (ai (aa (gV c 1 t) ?_))
  obtain ⟨T,Í,g⟩:=bind_some g
  obtain ⟨_,M,g⟩:=bind_some g
  replace M:=iY M
  refine jN 0 [] 0 0 il ft (pW Í) rfl hb37 rfl rfl rfl (by kernel_rfl) rfl (.inl rfl) rfl (by kernel_rfl) (by kernel_rfl) (by kernel_rfl) (by kernel_rfl) rfl (by decide) (by kernel_rfl) jm (qY M) wz ([(c,gB 1 eI T)]:Hp) (by kernel_rfl) (bT (v':=(gV c 1 T)) 36 rfl (jg M.symm) (bT (v':=(gV c 1 T)) 5 rfl (jg M.symm) (af (ai (aa (gV c 1 T) ?_)))))
  obtain ⟨b,Î,g⟩:=bind_some g
  refine jN 0 [] 0 0 il ft (uP Î) rfl hb132 rfl rfl rfl (by kernel_rfl) rfl (.inl rfl) rfl (by kernel_rfl) (by kernel_rfl) (by kernel_rfl) (by kernel_rfl) rfl (by decide) (by kernel_rfl) F5 (λ_=>rfl) wz ([(c,none)]:Hp) (by kernel_rfl) (aa (vL eI b) (af (ai (aa .nil (af (ai (aa .nil (af (ai (aa (vI 0) (af (ak (ai (aa (vL eI b) (bA Ar rfl wz (aa (vI 0) (af (Bu Run.enc 9 rfl (iM (λØ => ?_))))))))))))))))))))
  obtain ⟨Ú,À,g⟩:=bind_some g
  obtain ⟨È,À⟩:=aY À
  refine iw (σ:=(List Rect)×(List Run)×Int) (N:=Nm) (λp=>(λ(a:(List Rect)×(List Run)×Int) (h:Nm)=>([(8,(gV h 4 a.1))]:SL_)) p.1 p.2) (λp=>(λ(a:(List Rect)×(List Run)×Int) (h:Nm)=>([(c,none),(h,gB 4 Rect.enc a.1)]:Hp)) p.1 p.2) (λ(e:Nat)=>(λp=>(λ(a:(List Rect)×(List Run)×Int) (h:Nm)=>([(0,(vL Rect.enc m)),(1,(vL Rect.enc n)),(5,(vL eI b)),(8,(gV h 4 a.1)),(9,(vL Run.enc a.2.1)),(10,(vI a.2.2)),(40,(vL eI b)),(41,(vI (b.length:Int))),(42,(vI (e:Int)))]:SL_)) p.1 p.2)) (λk x s=>mO b m n k x s) Ú b ((([]:List Rect),([]:List Run),0),Ø) À rfl (aG rfl) ?_ ?_
  ·rintro ⟨e,R,a,h⟩ ⟨F,y⟩
   dsimp only at F y
   cases R with
   | nil =>
    obtain rfl:=ae F
    refine ai (aa (vB (decide ((e:Int)<(b.length:Int)))) (af ?_))
    refine ak (ax rfl (drop_nil y) (aU ?_))
    exact aW (a,h) rfl rfl (aG rfl)
   | cons f R =>
    obtain ⟨Ç,l,F⟩:=bind_some F
    refine ai (aa (vB (decide ((e:Int)<(b.length:Int)))) (af ?_))
    refine ak (ay rfl (bu y) (av ?_))
    unfold mO at l
    refine ak (aM (ai (aa (vI (e:Int)) (dC pQ rfl rfl (bI y) rfl wz (bE sz3 ag3 rfl (vI f) rfl wz (aa (vI (e:Int)) (aa (vI f) (af (ai (aa .nil (af (ak (ai (aa (vI (e:Int)) (aa (vI (w64 ((e:Int)+1))) (aa (vL eI b) (bA Ar rfl wz (aa (vB (decide ((w64 ((e:Int)+1))<(b.length:Int)))) (af (Bu Run.enc 13 rfl ?_))))))))))))))))))))
    obtain ⟨B,o,l⟩:=bind_some l
    refine aR [(0,(vL Rect.enc m)),(1,(vL Rect.enc n)),(5,(vL eI b)),(8,(gV h 4 a.1)),(9,(vL Run.enc a.2.1)),(10,(vI a.2.2)),(12,(vI f)),(13,(vL Run.enc B)),(40,(vL eI b)),(41,(vI (b.length:Int))),(42,(vI (e:Int)))] [(c,none),(h,gB 4 Rect.enc a.1)] ?_ ?_
    ·rcases aj o with⟨W,o⟩|⟨W,o⟩
     ·refine ay rfl W (au (aa (vL Rect.enc m) (aa (vI f) ?_)))
      obtain ⟨ß,Ð,o⟩:=bind_some o
      refine aB (Ay Ð) rfl hb134 rfl rfl rfl rfl wz (aa (vL Rect.enc n) (aa (vI f) ?_))
      obtain ⟨à,Ñ,o⟩:=bind_some o
      refine aB (Ay Ñ) rfl hb134 rfl rfl rfl rfl wz ?_
      obtain ⟨Ü,Ò,o⟩:=bind_some o
      refine aB (Hm Ò) rfl hb133 rfl rfl rfl rfl wz (aa (vL Run.enc Ü) (af ?_))
      obtain rfl:=ae o
      exact cu
     ·refine ax rfl W (av ?_)
      obtain rfl:=ae o
      exact cu
    ·rintro ⟨⟩ _ Ä U z A
     refine aO _ z A (ak (ai (aa (vL Run.enc a.2.1) (aa (vL Run.enc B) ?_))))
     obtain ⟨á,Ó,l⟩:=bind_some l
     refine aB (pg Ó) rfl hb135 rfl rfl rfl rfl wz (af ?_)
     rcases aj l with⟨X,l⟩|⟨X,l⟩
     ·refine ay rfl X (aU (au (dH (bz y È) wz rfl (aa (vI ((e+1:Nat):Int)) (af ?_)))))
      obtain rfl:=ae l
      exact aV (e+1,R,(a.1,a.2.1,a.2.2),h) ⟨F,aX y⟩ (ls_ _) rfl (aG rfl)
     ·refine ax rfl X (av (ak (ai (aa (vL Run.enc a.2.1) (bA BX rfl wz (aa (vI 0) (af ?_)))))))
      obtain ⟨Û,Á,l⟩:=bind_some l
      obtain ⟨Ë,Á⟩:=aY Á
      refine iw (σ:=(List Rect)) (N:=Nm) (λp=>(λ(u:List Rect) (q:Nm)=>([(0,(vL Rect.enc m)),(1,(vL Rect.enc n)),(5,(vL eI b)),(8,(gV q 4 u)),(12,(vI f)),(13,(vL Run.enc B)),(40,(vL eI b)),(41,(vI (b.length:Int))),(42,(vI (e:Int)))]:SL_)) p.1 p.2) (λp=>(λ(u:List Rect) (q:Nm)=>([(c,none),(q,gB 4 Rect.enc u)]:Hp)) p.1 p.2) (λ(I:Nat)=>(λp=>(λ(u:List Rect) (q:Nm)=>([(0,(vL Rect.enc m)),(1,(vL Rect.enc n)),(5,(vL eI b)),(8,(gV q 4 u)),(10,(vI a.2.2)),(12,(vI f)),(13,(vL Run.enc B)),(40,(vL eI b)),(41,(vI (b.length:Int))),(42,(vI (e:Int))),(62,(vL Run.enc a.2.1)),(63,(vI (a.2.1.length:Int))),(64,(vI (I:Int)))]:SL_)) p.1 p.2)) (λk x s=>pK a f k x s) Û a.2.1 (a.1,h) Á rfl (aG rfl) ?_ ?_
      ·rintro ⟨I,Â,u,q⟩ ⟨K,C⟩
       dsimp only at K C
       cases Â with
       | nil =>
        obtain rfl:=ae K
        refine ai (aa (vB (decide ((I:Int)<(a.2.1.length:Int)))) (af ?_))
        refine ak (ax rfl (drop_nil C) (aU ?_))
        exact aW (u,q) rfl rfl (aG rfl)
       | cons j Â =>
        obtain ⟨Ç,Q,K⟩:=bind_some K
        refine ai (aa (vB (decide ((I:Int)<(a.2.1.length:Int)))) (af ?_))
        refine ak (ay rfl (bu C) (av ?_))
        unfold pK at Q
        refine ak (aM (ai (dC oV rfl rfl (bI C) rfl wz (bE qX AJ rfl (.d (.agg (Run.enc j))) rfl wz (dA 0 (.inl rfl) z210 rfl wz (λÞ=>jw 0 il ft 2 qX rfl rfl [(vI j.f_from),(vI j.f_to)] rfl wz (af (au (aa (gV q 4 u) (aK nX rfl 0 rfl wz (aI 0 2 il ft sz3 ag3 rfl rfl (vI j.f_from) rfl wz (aa (vI a.2.2) (aK vz rfl 1 rfl wz (aI 0 2 il ft sz3 ag3 rfl rfl (vI j.f_to) rfl wz (aK nX rfl 0 rfl wz (aI 0 2 il ft sz3 ag3 rfl rfl (vI j.f_from) rfl wz (aa (vI (w64 (j.f_to-j.f_from))) (aa (vI f) (aa (vI a.2.2) (aa (vI (w64 (f-a.2.2))) (aL (.d (.agg (Rect.enc (⟨j.f_from,a.2.2,(w64 (j.f_to-j.f_from)),(w64 (f-a.2.2))⟩:Rect)))) wz (by kernel_rfl) (eu (([(⟨j.f_from,a.2.2,(w64 (j.f_to-j.f_from)),(w64 (f-a.2.2))⟩:Rect)]:List Rect).map Rect.enc) DR Sj rfl rfl rfl rfl rfl wz ?_))))))))))))))))))))))
        obtain ⟨Æ,Õ,Q⟩:=bind_some Q
        refine jF 0 il ft (i:=1) IL IL tV L6 rfl (by decide) UI (by decide) (λ_=>rfl) rfl rfl rfl Õ wz (λÊ=>aa (gV Ê 4 Æ) (af (au (dH (bz C Ë) wz rfl (aa (vI ((I+1:Nat):Int)) (af ?_))))))
        obtain rfl:=ae Q
        exact aV (I+1,Â,Æ,Ê) ⟨K,aX C⟩ (ls_ _) rfl (aG rfl)
      ·rintro ⟨u,q⟩ L Ä U z A
       subst L
       refine aO _ z A (au (aa (vL Run.enc B) (aa (vI f) (aa (vL Run.enc B) (aa (vI f) (af (au (dH (bz y È) wz rfl (aa (vI ((e+1:Nat):Int)) (af ?_))))))))))
       obtain rfl:=ae l
       exact aV (e+1,R,(u,B,f),q) ⟨F,aX y⟩ (ls_ _) rfl (aG rfl)
  ·rintro ⟨a,h⟩ L Ä U z A
   subst L
   refine aO _ z A (ai (aa (gV h 4 a.1) (aa (gV h 4 a.1) (af (iq 1 rfl (cO 4 1 rfl rfl (cO 8 1 rfl rfl (cO 87 1 rfl rfl ?_))))))))
   obtain rfl:=ae g
   exact aC (aN [(vL Rect.enc a.1)] ⟨rfl,trivial⟩)
theorem GG {c:(List Rect)} {r:Int} (h:xx c=some r) :
  FnM Tryz.prog 84 [(vL Rect.enc c)] [] (vI r) []:=by
 refine FnM.of_wH ⟨Tryz.prog,21,[],[]⟩ rfl Tryz.func84 rfl rfl (lb_ rfl) (by kernel_rfl) ?_
 unfold xx at h
 refine ai (aa (vI 0) (af (ai (aa (vI 0) (af (ak (ai (aa (vL Rect.enc c) (bA yo rfl wz (aa (vI 0) (af ?_)))))))))))
 obtain ⟨q,i,h⟩:=bind_some h
 obtain ⟨m,i⟩:=aY i
 refine bN (λ(a:Int)=>[(3,(vI a))]) (λ(a:Int)=>[]) (λ(f:Nat)=>(λ(a:Int)=>[(3,(vI a)),(6,(vL Rect.enc c)),(7,(vI (c.length:Int))),(8,(vI (f:Int)))])) (λk x s=>vT k x s) q c 0 i rfl (aG rfl) ?_ ?_
 ·rintro ⟨f,j,a⟩ ⟨g,e⟩
  dsimp only at g e
  cases j with
  | nil =>
   obtain rfl:=ae g
   refine ai (aa (vB (decide ((f:Int)<(c.length:Int)))) (af ?_))
   refine ak (ax rfl (drop_nil e) (aU ?_))
   exact aW (a) rfl rfl (aG rfl)
  | cons b j =>
   obtain ⟨u,l,g⟩:=bind_some g
   refine ai (aa (vB (decide ((f:Int)<(c.length:Int)))) (af ?_))
   refine ak (ay rfl (bu e) (av ?_))
   unfold vT at l
   refine ak (aM (ai (dC DR rfl rfl (bI e) rfl wz (bE tV Fz rfl (.d (.agg (Rect.enc b))) rfl wz (dA 0 (.inl rfl) L6 rfl wz (λw=>jw 0 il ft 0 tV rfl rfl (Rect.v b) rfl wz (af (au (aa (vI a) (aK Gp rfl 2 rfl wz (aI 0 0 il ft sz3 ag3 rfl rfl (vI b.W) rfl wz (aK Dl rfl 3 rfl wz (aI 0 0 il ft sz3 ag3 rfl rfl (vI b.H) rfl wz (aa (vI (w64 (b.W*b.H))) (aa (vI (w64 (a+(w64 (b.W*b.H))))) (aa (vI (w64 (a+(w64 (b.W*b.H))))) (af (au (dH (bz e m) wz rfl (aa (vI ((f+1:Nat):Int)) (af ?_)))))))))))))))))))))
   obtain rfl:=ae l
   exact aV (f+1,j,(w64 (a+(w64 (b.W*b.H))))) ⟨g,aX e⟩ (ls_ _) rfl (aG rfl)
 ·rintro a n y t o p
  subst n
  refine aO _ o p (ai (aa (vI a) (aa (vI a) (af ?_))))
  obtain rfl:=ae h
  exact aC (aN [(vI a)] ⟨rfl,trivial⟩)
theorem IJ {c:(List Rect)} {r:Int×Int} (a:uu c=some r) :
  FnM Tryz.prog 53 [(vL Rect.enc c)] [] (.tup [(vI r.1),(vI r.2)]) []:=by
 refine FnM.of_wH ⟨Tryz.prog,13,[],[]⟩ rfl Tryz.func53 rfl rfl (lb_ rfl) (by kernel_rfl) ?_
 unfold uu at a
 refine ai (aa (vI 0) (aa (vI 0) (af (ak (ai (aa (vL Rect.enc c) ?_))))))
 obtain ⟨b,f,a⟩:=bind_some a
 refine aB (Am f) rfl hb83 rfl rfl rfl rfl wz (aa (vI b) (af (ai (aa (vI b) (aa (vB (b != 0)) (af ?_))))))
 rcases aj a with⟨d,a⟩|⟨d,a⟩
 ·refine ay rfl d (ai (aa (vI b) (aa (vI 0) (aa (vI b) (af ?_)))))
  obtain rfl:=ae a
  exact aC (aN [(vI 0),(vI b)] ⟨rfl,⟨rfl,trivial⟩⟩)
 ·refine ax rfl d (av (ai (aa (vL Rect.enc c) ?_)))
  obtain ⟨i,g,a⟩:=bind_some a
  refine aB (EA g) rfl hb85 rfl rfl rfl rfl wz ?_
  obtain ⟨e,h,a⟩:=bind_some a
  refine aB (GG h) rfl hb84 rfl rfl rfl rfl wz (aa (vI e) (aa (vI 0) (af ?_)))
  obtain rfl:=ae a
  exact aC (aN [(vI e),(vI 0)] ⟨rfl,⟨rfl,trivial⟩⟩)
theorem KF {a:Int} {r:Bool} (c:En a=some r) :
  FnM Tryz.prog 200 [(vI a)] [] (vB r) []:=by
 refine FnM.of_wH ⟨Tryz.prog,9,[],[]⟩ rfl Tryz.func200 rfl rfl (lb_ rfl) (by kernel_rfl) ?_
 unfold En at c
 refine ai (aa (vB false) (af (ak ?_)))
 obtain ⟨e,b,c⟩:=bind_some c
 refine aR [(2,(vB e))] [] ?_ ?_
 ·refine au (aa (vI a) (aa (vB (decide (a>=0))) ?_))
  rcases aj b with⟨d,b⟩|⟨d,b⟩
  ·refine aH rfl d wz (aL (vI a) wa rfl (aL (vB (decide (a<=4000))) wa rfl (aa (vB (decide (a<=4000))) (aa (vB (decide (a<=4000))) (af ?_)))))
   obtain rfl:=ae b
   exact cu
  ·refine aH rfl d wz (ah (ah (aa (vB false) (aa (vB false) (af ?_)))))
   obtain rfl:=ae b
   exact cu
 ·rintro ⟨⟩ _ i h f g
  refine aO _ f g ?_
  obtain rfl:=ae c
  exact aC (aN [(vB e)] ⟨rfl,trivial⟩)
theorem yl {a:(List Int)} {r:Int} (d:lQ a=some r) :
  FnM Tryz.prog 177 [(vL eI a)] [] (vI r) []:=by
 refine FnM.of_wH ⟨Tryz.prog,30,[],[]⟩ rfl Tryz.func177 rfl rfl (lb_ rfl) (by kernel_rfl) ?_
 unfold lQ at d
 refine ai (aa (vI 0) (af (ak (ai (aa (vL eI a) (bA Ar rfl wz (aa (vB (decide ((a.length:Int)>100))) (af ?_))))))))
 rcases aj d with⟨m,d⟩|⟨m,d⟩
 ·refine ay rfl m (ai (aa (vI 2) (af ?_)))
  obtain rfl:=ae d
  exact aC (aN [(vI 2)] ⟨rfl,trivial⟩)
 ·refine ax rfl m (av (ak (ai (aa (vL eI a) (bA Ar rfl wz (aa (vI 0) (af ?_)))))))
  obtain ⟨B,o,d⟩:=bind_some d
  obtain ⟨w,o⟩:=aY o
  refine bN (λ(i:Unit)=>[]) (λ(i:Unit)=>[]) (λ(c:Nat)=>(λ(i:Unit)=>[(0,(vL eI a)),(8,(vL eI a)),(9,(vI (a.length:Int))),(10,(vI (c:Int)))])) (λk x s=>mF a k x s) B a () o rfl (aG rfl) ?_ ?_
  ·rintro ⟨c,t,i⟩ ⟨e,g⟩
   dsimp only at e g
   cases t with
   | nil =>
    obtain rfl:=ae e
    refine ai (aa (vB (decide ((c:Int)<(a.length:Int)))) (af ?_))
    refine ak (ax rfl (drop_nil g) (aU ?_))
    exact aW (i) rfl rfl (aG rfl)
   | cons h t =>
    obtain ⟨G,b,e⟩:=bind_some e
    refine ai (aa (vB (decide ((c:Int)<(a.length:Int)))) (af ?_))
    refine ak (ay rfl (bu g) (av ?_))
    unfold mF at b
    refine ak (aM (ai (aa (vI (c:Int)) (dC pQ rfl rfl (bI g) rfl wz (bE sz3 ag3 rfl (vI h) rfl wz (aa (vI (c:Int)) (aa (vI h) (af (ak (ai (aa (vI h) ?_)))))))))))
    obtain ⟨C,z,b⟩:=bind_some b
    refine aB (KF z) rfl hb200 rfl rfl rfl rfl wz (aa (vB (!C)) (af ?_))
    rcases aj b with⟨j,b⟩|⟨j,b⟩
    ·refine ay rfl j (ai (aa (vI 1) (af ?_)))
     obtain rfl:=ae b
     obtain rfl:=ae e
     obtain rfl:=ae d
     exact aC (aN [(vI 1)] ⟨rfl,trivial⟩)
    ·refine ax rfl j (av (ak ?_))
     obtain ⟨F,f,b⟩:=bind_some b
     refine aR [(0,(vL eI a)),(8,(vL eI a)),(9,(vI (a.length:Int))),(10,(vI (c:Int))),(28,(vB F))] [] ?_ ?_
     ·refine au (aa (vI (c:Int)) (aa (vB (decide ((c:Int)>0))) ?_))
      rcases aj f with⟨l,f⟩|⟨l,f⟩
      ·refine aH rfl l wz (aL (vI h) wa rfl (aL (vL eI a) wa rfl (aL (vI (c:Int)) wa rfl (aL (vI (w64 ((c:Int)-1))) wa rfl ?_))))
       obtain ⟨u,A,f⟩:=bind_some f
       refine dC pQ rfl rfl A rfl wa (bE sz3 ag3 rfl (vI u) rfl wa (aL (vB (decide (h<=u))) wa rfl (aa (vB (decide (h<=u))) (af ?_))))
       obtain rfl:=ae f
       exact cu
      ·refine aH rfl l wz (ah (ah (ah (ah (ah (ah (ah (aa (vB false) (af ?_)))))))))
       obtain rfl:=ae f
       exact cu
     ·rintro ⟨⟩ _ E v p q
      refine aO _ p q ?_
      rcases aj b with⟨n,b⟩|⟨n,b⟩
      ·refine ay rfl n (ai (aa (vI 7) (af ?_)))
       obtain rfl:=ae b
       obtain rfl:=ae e
       obtain rfl:=ae d
       exact aC (aN [(vI 7)] ⟨rfl,trivial⟩)
      ·refine ax rfl n (av (au (dH (bz g w) wz rfl (aa (vI ((c+1:Nat):Int)) (af ?_)))))
       obtain rfl:=ae b
       exact aV (c+1,t,()) ⟨e,aX g⟩ (ls_ _) rfl (aG rfl)
  ·rintro i y E v p q
   subst y
   refine aO _ p q (ai (aa (vI 0) (af ?_)))
   obtain rfl:=ae d
   exact aC (aN [(vI 0)] ⟨rfl,trivial⟩)
theorem wO {b:(List ByteArray)} {r:Int} (g:lD b=some r) :
  FnM Tryz.prog 180 [(vL eS b)] [] (vI r) []:=by
 refine FnM.of_wH ⟨Tryz.prog,27,[],[]⟩ rfl Tryz.func180 rfl rfl (lb_ rfl) (by kernel_rfl) ?_
 unfold lD at g
 refine ai (aa (vI 0) (af (ak (ai (aa (vL eS b) (bA vk rfl wz (aa (vI 0) (af ?_))))))))
 obtain ⟨A,n,g⟩:=bind_some g
 obtain ⟨v,n⟩:=aY n
 refine bN (λ(i:Unit)=>[]) (λ(i:Unit)=>[]) (λ(c:Nat)=>(λ(i:Unit)=>[(0,(vL eS b)),(5,(vL eS b)),(6,(vI (b.length:Int))),(7,(vI (c:Int)))])) (λk x s=>lq b k x s) A b () n rfl (aG rfl) ?_ ?_
 ·rintro ⟨c,q,i⟩ ⟨d,f⟩
  dsimp only at d f
  cases q with
  | nil =>
   obtain rfl:=ae d
   refine ai (aa (vB (decide ((c:Int)<(b.length:Int)))) (af ?_))
   refine ak (ax rfl (drop_nil f) (aU ?_))
   exact aW (i) rfl rfl (aG rfl)
  | cons h q =>
   obtain ⟨F,a,d⟩:=bind_some d
   refine ai (aa (vB (decide ((c:Int)<(b.length:Int)))) (af ?_))
   refine ak (ay rfl (bu f) (av ?_))
   unfold lq at a
   refine ak (aM (ai (aa (vI (c:Int)) (dC rF rfl rfl (bI f) rfl wz (bE sz9 ag9 rfl (vS h) rfl wz (aa (vI (c:Int)) (aa (vS h) (af (ak (ai (aa (vS h) ?_)))))))))))
   obtain ⟨B,y,a⟩:=bind_some a
   refine aB (eU y) rfl CO rfl rfl rfl rfl wz (aa (vB (!B)) (af ?_))
   rcases aj a with⟨j,a⟩|⟨j,a⟩
   ·refine ay rfl j (ai (aa (vI 5) (af ?_)))
    obtain rfl:=ae a
    obtain rfl:=ae d
    obtain rfl:=ae g
    exact aC (aN [(vI 5)] ⟨rfl,trivial⟩)
   ·refine ax rfl j (av (ak ?_))
    obtain ⟨E,e,a⟩:=bind_some a
    refine aR [(0,(vL eS b)),(5,(vL eS b)),(6,(vI (b.length:Int))),(7,(vI (c:Int))),(25,(vB E))] [] ?_ ?_
    ·refine au (aa (vI (c:Int)) (aa (vB (decide ((c:Int)>0))) ?_))
     rcases aj e with⟨l,e⟩|⟨l,e⟩
     ·refine aH rfl l wz (aL (vS h) wa rfl (aL (vL eS b) wa rfl (aL (vI (c:Int)) wa rfl (aL (vI (w64 ((c:Int)-1))) wa rfl ?_))))
      obtain ⟨t,z,e⟩:=bind_some e
      refine dC rF rfl rfl z rfl wa (bE sz9 ag9 rfl (vS t) rfl wa (aL (vB (sLe h t)) wa rfl (aa (vB (sLe h t)) (af ?_))))
      obtain rfl:=ae e
      exact cu
     ·refine aH rfl l wz (ah (ah (ah (ah (ah (ah (ah (aa (vB false) (af ?_)))))))))
      obtain rfl:=ae e
      exact cu
    ·rintro ⟨⟩ _ C u o p
     refine aO _ o p ?_
     rcases aj a with⟨m,a⟩|⟨m,a⟩
     ·refine ay rfl m (ai (aa (vI 7) (af ?_)))
      obtain rfl:=ae a
      obtain rfl:=ae d
      obtain rfl:=ae g
      exact aC (aN [(vI 7)] ⟨rfl,trivial⟩)
     ·refine ax rfl m (av (au (dH (bz f v) wz rfl (aa (vI ((c+1:Nat):Int)) (af ?_)))))
      obtain rfl:=ae a
      exact aV (c+1,q,()) ⟨d,aX f⟩ (ls_ _) rfl (aG rfl)
 ·rintro i w C u o p
  subst w
  refine aO _ o p (ai (aa (vI 0) (af ?_)))
  obtain rfl:=ae g
  exact aC (aN [(vI 0)] ⟨rfl,trivial⟩)
theorem zX {b:(List ByteArray)} {r:Int} (a:lh b=some r) :
  FnM Tryz.prog 178 [(vL eS b)] [] (vI r) []:=by
 refine FnM.of_wH ⟨Tryz.prog,8,[],[]⟩ rfl Tryz.func178 rfl rfl (lb_ rfl) (by kernel_rfl) ?_
 unfold lh at a
 refine ai (aa (vI 0) (af (ak (ai (aa (vL eS b) (bA vk rfl wz (aa (vB (decide ((b.length:Int)>20))) (af ?_))))))))
 rcases aj a with⟨c,a⟩|⟨c,a⟩
 ·refine ay rfl c (ai (aa (vI 2) (af ?_)))
  obtain rfl:=ae a
  exact aC (aN [(vI 2)] ⟨rfl,trivial⟩)
 ·refine ax rfl c (av (ai (aa (vL eS b) ?_)))
  obtain ⟨d,e,a⟩:=bind_some a
  refine aB (wO e) rfl hb180 rfl rfl rfl rfl wz (aa (vI d) (af ?_))
  obtain rfl:=ae a
  exact aC (aN [(vI d)] ⟨rfl,trivial⟩)
theorem yU {c:Entry} {r:Int} (a:kC c=some r) :
  FnM Tryz.prog 136 [(.d (.agg (Entry.enc c)))] [] (vI r) []:=by
 refine FnM.of_wH ⟨Tryz.prog,61,[],[]⟩ rfl Tryz.func136 rfl rfl (lb_ rfl) (by kernel_rfl) ?_
 unfold kC at a
 refine ai (ib 0 (.inl rfl) (Entry.v c) rfl rfl wz (λg=>aa (vI 0) (af (ak (ak ?_)))))
 obtain ⟨X,f,a⟩:=bind_some a
 refine aR [(1,(.ref g 0 0)),(13,(vB X))] [(g,some (.cells 13 (Entry.v c)))] ?_ ?_
 ·refine au (aK LK rfl 0 rfl wz (aI 0 0 il ft sz9 ag9 rfl rfl (vS c.Key) rfl wz ?_))
  obtain ⟨T,L,f⟩:=bind_some f
  refine aB (eU L) rfl CO rfl rfl rfl rfl wz (aa (vB (!T)) ?_)
  rcases aj f with⟨w,f⟩|⟨w,f⟩
  ·refine aH rfl w wz (ah (ah (ah (ah (aa (vB true) (af ?_))))))
   obtain rfl:=ae f
   exact cu
  ·refine aH rfl w wz (aK pl112_1 rfl 1 rfl wa (aI 0 0 il ft sz9 ag9 rfl rfl (vS c.Item) rfl wa ?_))
   obtain ⟨z,M,f⟩:=bind_some f
   refine aB (eU M) rfl CO rfl rfl rfl rfl wa (aL (vB (!z)) wa rfl (aa (vB (!z)) (af ?_)))
   obtain rfl:=ae f
   exact cu
 ·rintro ⟨⟩ _ A x i j
  refine aO _ i j ?_
  rcases aj a with⟨k,a⟩|⟨k,a⟩
  ·refine ay rfl k (ai (aa (vI 5) (af ?_)))
   obtain rfl:=ae a
   exact aC (aN [(vI 5)] ⟨rfl,trivial⟩)
  ·refine ax rfl k (av (ak (ak ?_)))
   obtain ⟨U,b,a⟩:=bind_some a
   refine aR [(1,(.ref g 0 0)),(38,(vB U))] [(g,some (.cells 13 (Entry.v c)))] ?_ ?_
   ·refine au (aK pl112_2 rfl 2 rfl wz (aI 0 0 il ft sz3 ag3 rfl rfl (vI c.Version) rfl wz ?_))
    obtain ⟨Y,B,b⟩:=bind_some b
    refine aB (bf B) rfl qc rfl rfl rfl rfl wz ?_
    rcases aj b with⟨l,b⟩|⟨l,b⟩
    ·refine aH rfl l wz (ah (ah (ah (ah (ah (aa (vB true) (aa (vB true) (ah (ah (ah (aa (vB true) (aa (vB true) (ah (ah (ah (aa (vB true) (aa (vB true) (ah (ah (ah (aa (vB true) (af ?_))))))))))))))))))))))
     obtain rfl:=ae b
     exact cu
    ·refine aH rfl l wz (aK Gu rfl 3 rfl wa (aI 0 0 il ft sz3 ag3 rfl rfl (vI c.First) rfl wa (aK Gg rfl 4 rfl wa (aI 0 0 il ft sz3 ag3 rfl rfl (vI c.Last) rfl wa ?_))))
     obtain ⟨N,C,b⟩:=bind_some b
     refine aB (bf C) rfl qc rfl rfl rfl rfl wa (aa (vB N) ?_)
     rcases aj b with⟨m,b⟩|⟨m,b⟩
     ·refine aH rfl m wz (ah (ah (ah (aa (vB true) (aa (vB true) (ah (ah (ah (aa (vB true) (aa (vB true) (ah (ah (ah (aa (vB true) (af ?_)))))))))))))))
      obtain rfl:=ae b
      exact cu
     ·refine aH rfl m wz (aK Gg rfl 4 rfl wa (aI 0 0 il ft sz3 ag3 rfl rfl (vI c.Last) rfl wa (aL (vB (decide (c.Last>4000))) wa rfl (aa (vB (decide (c.Last>4000))) ?_))))
      rcases aj b with⟨n,b⟩|⟨n,b⟩
      ·refine aH rfl n wz (ah (ah (ah (aa (vB true) (aa (vB true) (ah (ah (ah (aa (vB true) (af ?_))))))))))
       obtain rfl:=ae b
       exact cu
      ·refine aH rfl n wz (aK PG rfl 5 rfl wa (aI 0 0 il ft sz3 ag3 rfl rfl (vI c.Every) rfl wa ?_))
       obtain ⟨O,E,b⟩:=bind_some b
       refine aB (bf E) rfl qc rfl rfl rfl rfl wa (aa (vB O) ?_)
       rcases aj b with⟨o,b⟩|⟨o,b⟩
       ·refine aH rfl o wz (ah (ah (ah (aa (vB true) (af ?_)))))
        obtain rfl:=ae b
        exact cu
       ·refine aH rfl o wz (aK Qt rfl 6 rfl wa (aI 0 0 il ft sz3 ag3 rfl rfl (vI c.Days) rfl wa ?_))
        obtain ⟨P,F,b⟩:=bind_some b
        refine aB (bf F) rfl qc rfl rfl rfl rfl wa (aa (vB P) (af ?_))
        obtain rfl:=ae b
        exact cu
   ·rintro ⟨⟩ _ A x i j
    refine aO _ i j ?_
    rcases aj a with⟨p,a⟩|⟨p,a⟩
    ·refine ay rfl p (ai (aa (vI 1) (af ?_)))
     obtain rfl:=ae a
     exact aC (aN [(vI 1)] ⟨rfl,trivial⟩)
    ·refine ax rfl p (av (ak (ai (aK Qr rfl 7 rfl wz (aI 0 0 il ft Rf QI rfl rfl (vL eI c.Except) rfl wz ?_)))))
     obtain ⟨h,G,a⟩:=bind_some a
     refine aB (yl G) rfl hb177 rfl rfl rfl rfl wz (aa (vI h) (af (ai (aa (vI h) (aa (vB (h != 0)) (af ?_))))))
     rcases aj a with⟨q,a⟩|⟨q,a⟩
     ·refine ay rfl q (ai (aa (vI h) (aa (vI h) (af ?_))))
      obtain rfl:=ae a
      exact aC (aN [(vI h)] ⟨rfl,trivial⟩)
     ·refine ax rfl q (av (ak (ak ?_)))
      obtain ⟨W,e,a⟩:=bind_some a
      refine aR [(1,(.ref g 0 0)),(57,(vB W))] [(g,some (.cells 13 (Entry.v c)))] ?_ ?_
      ·refine au (aK Kv rfl 8 rfl wz (aI 0 0 il ft sz3 ag3 rfl rfl (vI c.From) rfl wz ?_))
       obtain ⟨Z,H,e⟩:=bind_some e
       refine aB (bf H) rfl qc rfl rfl rfl rfl wz ?_
       rcases aj e with⟨s,e⟩|⟨s,e⟩
       ·refine aH rfl s wz (ah (ah (ah (aa (vB true) (aa (vB true) (ah (ah (ah (aa (vB true) (af ?_))))))))))
        obtain rfl:=ae e
        exact cu
       ·refine aH rfl s wz (aK Qj rfl 9 rfl wa (aI 0 0 il ft sz3 ag3 rfl rfl (vI c.To) rfl wa ?_))
        obtain ⟨Q,I,e⟩:=bind_some e
        refine aB (bf I) rfl qc rfl rfl rfl rfl wa (aa (vB Q) ?_)
        rcases aj e with⟨t,e⟩|⟨t,e⟩
        ·refine aH rfl t wz (ah (ah (ah (aa (vB true) (af ?_)))))
         obtain rfl:=ae e
         exact cu
        ·refine aH rfl t wz (aK Uk rfl 10 rfl wa (aI 0 0 il ft sz3 ag3 rfl rfl (vI c.Prio) rfl wa ?_))
         obtain ⟨R,J,e⟩:=bind_some e
         refine aB (bf J) rfl qc rfl rfl rfl rfl wa (aa (vB R) (af ?_))
         obtain rfl:=ae e
         exact cu
      ·rintro ⟨⟩ _ A x i j
       refine aO _ i j ?_
       rcases aj a with⟨u,a⟩|⟨u,a⟩
       ·refine ay rfl u (ai (aa (vI 1) (af ?_)))
        obtain rfl:=ae a
        exact aC (aN [(vI 1)] ⟨rfl,trivial⟩)
       ·refine ax rfl u (av (ai (aK Tx rfl 11 rfl wz (aI 0 0 il ft QB QK rfl rfl (vL eS c.Tags) rfl wz ?_))))
        obtain ⟨y,K,a⟩:=bind_some a
        refine aB (zX K) rfl hb178 rfl rfl rfl rfl wz (aa (vI y) (af ?_))
        obtain rfl:=ae a
        exact aC (aN [(vI y)] ⟨rfl,trivial⟩)
theorem xV {a:(List Entry)} {r:Int} (e:jB a=some r) :
  FnM Tryz.prog 86 [(vL Entry.enc a)] [] (vI r) []:=by
 refine FnM.of_wH ⟨Tryz.prog,35,[],[]⟩ rfl Tryz.func86 rfl rfl (lb_ rfl) (by kernel_rfl) ?_
 unfold jB at e
 refine ai (aa (vI 0) (af (ak (ai (aa (vL Entry.enc a) (bA un150 rfl wz (aa (vB (decide ((a.length:Int)>200))) (af ?_))))))))
 rcases aj e with⟨p,e⟩|⟨p,e⟩
 ·refine ay rfl p (ai (aa (vI 2) (af ?_)))
  obtain rfl:=ae e
  exact aC (aN [(vI 2)] ⟨rfl,trivial⟩)
 ·refine ax rfl p (av (ak (ai (aa (vL Entry.enc a) (bA un150 rfl wz (aa (vI 0) (af ?_)))))))
  obtain ⟨G,t,e⟩:=bind_some e
  obtain ⟨A,t⟩:=aY t
  refine bN (λ(l:Unit)=>[]) (λ(l:Unit)=>[]) (λ(c:Nat)=>(λ(l:Unit)=>[(0,(vL Entry.enc a)),(9,(vL Entry.enc a)),(10,(vI (a.length:Int))),(11,(vI (c:Int)))])) (λk x s=>iy a k x s) G a () t rfl (aG rfl) ?_ ?_
  ·rintro ⟨c,y,l⟩ ⟨f,i⟩
   dsimp only at f i
   cases y with
   | nil =>
    obtain rfl:=ae f
    refine ai (aa (vB (decide ((c:Int)<(a.length:Int)))) (af ?_))
    refine ak (ax rfl (drop_nil i) (aU ?_))
    exact aW (l) rfl rfl (aG rfl)
   | cons h y =>
    obtain ⟨J,b,f⟩:=bind_some f
    refine ai (aa (vB (decide ((c:Int)<(a.length:Int)))) (af ?_))
    refine ak (ay rfl (bu i) (av ?_))
    unfold iy at b
    refine ak (aM (ai (aa (vI (c:Int)) (dC TV rfl rfl (bI i) rfl wz (bE GD JX rfl (.d (.agg (Entry.enc h))) rfl wz (dA 0 (.inl rfl) z112 rfl wz (λF=>aa (vI (c:Int)) (jw 0 il ft 0 GD rfl rfl (Entry.v h) rfl wz (af (ak (ai (aI 0 0 il ft GD JX rfl rfl (.d (.agg (Entry.enc h))) rfl wz ?_))))))))))))
    obtain ⟨j,C,b⟩:=bind_some b
    refine aB (yU C) rfl hb136 rfl rfl rfl rfl wz (aa (vI j) (af (ai (aa (vI j) (aa (vB (j != 0)) (af ?_))))))
    rcases aj b with⟨n,b⟩|⟨n,b⟩
    ·refine ay rfl n (ai (aa (vI j) (aa (vI j) (af ?_))))
     obtain rfl:=ae b
     obtain rfl:=ae f
     obtain rfl:=ae e
     exact aC (aN [(vI j)] ⟨rfl,trivial⟩)
    ·refine ax rfl n (av (ak ?_))
     obtain ⟨I,g,b⟩:=bind_some b
     refine aR [(0,(vL Entry.enc a)),(9,(vL Entry.enc a)),(10,(vI (a.length:Int))),(11,(vI (c:Int))),(33,(vB I))] [(F,some (.cells 13 (Entry.v h)))] ?_ ?_
     ·refine bg (aa (vI (c:Int)) (aa (vB (decide ((c:Int)>0))) ?_))
      rcases aj g with⟨o,g⟩|⟨o,g⟩
      ·refine aH rfl o wz (aK LK rfl 0 rfl wa (aI 4 0 (.inr (by kernel_rfl)) (λ_ _ ag=>trivial) sz9 ag9 rfl rfl (vS h.Key) rfl wa (aL (vL Entry.enc a) wa rfl (aL (vI (c:Int)) wa rfl (aL (vI (w64 ((c:Int)-1))) wa rfl ?_)))))
       obtain ⟨m,E,g⟩:=bind_some g
       refine dC TV rfl rfl E rfl wa (qh LK rfl (Entry.enc m) rfl rfl wa (bE sz9 ag9 rfl (vS m.Key) rfl wa (aL (vB (sLe h.Key m.Key)) wa rfl (aa (vB (sLe h.Key m.Key)) (af ?_)))))
       obtain rfl:=ae g
       exact cu
      ·refine aH rfl o wz (ah (ah (ah (ah (ah (ah (ah (ah (ah (aa (vB false) (af ?_)))))))))))
       obtain rfl:=ae g
       exact cu
     ·rintro ⟨⟩ _ H z u w
      refine aO _ u w ?_
      rcases aj b with⟨q,b⟩|⟨q,b⟩
      ·refine ay rfl q (ai (aa (vI 7) (af ?_)))
       obtain rfl:=ae b
       obtain rfl:=ae f
       obtain rfl:=ae e
       exact aC (aN [(vI 7)] ⟨rfl,trivial⟩)
      ·refine ax rfl q (av (au (dH (bz i A) wz rfl (aa (vI ((c+1:Nat):Int)) (af ?_)))))
       obtain rfl:=ae b
       exact aV (c+1,y,()) ⟨f,aX i⟩ (ls_ _) rfl (aG rfl)
  ·rintro l B H z u w
   subst B
   refine aO _ u w (ai (aa (vI 0) (af ?_)))
   obtain rfl:=ae e
   exact aC (aN [(vI 0)] ⟨rfl,trivial⟩)
theorem xZ {a:Window} {r:Int} (b:lU a=some r) :
  FnM Tryz.prog 87 [(.d (.agg (Window.enc a)))] [] (vI r) []:=by
 refine FnM.of_wH ⟨Tryz.prog,19,[],[]⟩ rfl Tryz.func87 rfl rfl (lb_ rfl) (by kernel_rfl) ?_
 unfold lU at b
 refine ai (ib 0 (.inl rfl) [(vI a.From),(vI a.To)] rfl rfl wz (λh=>aa (vI 0) (af (ak (ak ?_)))))
 obtain ⟨l,c,b⟩:=bind_some b
 refine aR [(1,(.ref h 0 0)),(12,(vB l))] [(h,some (.cells 2 [(vI a.From),(vI a.To)]))] ?_ ?_
 ·refine au (aK pG rfl 0 rfl wz (aI 0 0 il ft sz3 ag3 rfl rfl (vI a.From) rfl wz (aK o7 rfl 1 rfl wz (aI 0 0 il ft sz3 ag3 rfl rfl (vI a.To) rfl wz ?_))))
  obtain ⟨n,k,c⟩:=bind_some c
  refine aB (bf k) rfl qc rfl rfl rfl rfl wz ?_
  rcases aj c with⟨e,c⟩|⟨e,c⟩
  ·refine aH rfl e wz (ah (ah (ah (aa (vB true) (af ?_)))))
   obtain rfl:=ae c
   exact cu
  ·refine aH rfl e wz (aK o7 rfl 1 rfl wa (aI 0 0 il ft sz3 ag3 rfl rfl (vI a.To) rfl wa (aL (vB (decide (a.To>345686400000))) wa rfl (aa (vB (decide (a.To>345686400000))) (af ?_)))))
   obtain rfl:=ae c
   exact cu
 ·rintro ⟨⟩ _ o m i j
  refine aO _ i j ?_
  rcases aj b with⟨f,b⟩|⟨f,b⟩
  ·refine ay rfl f (ai (aa (vI 1) (af ?_)))
   obtain rfl:=ae b
   exact aC (aN [(vI 1)] ⟨rfl,trivial⟩)
  ·refine ax rfl f (av (ak (ai (aK o7 rfl 1 rfl wz (aI 0 0 il ft sz3 ag3 rfl rfl (vI a.To) rfl wz (aK pG rfl 0 rfl wz (aI 0 0 il ft sz3 ag3 rfl rfl (vI a.From) rfl wz (aa (vI (w64 (a.To-a.From))) (aa (vB (decide ((w64 (a.To-a.From))>34560000000))) (af ?_))))))))))
   rcases aj b with⟨g,b⟩|⟨g,b⟩
   ·refine ay rfl g (ai (aa (vI 2) (af ?_)))
    obtain rfl:=ae b
    exact aC (aN [(vI 2)] ⟨rfl,trivial⟩)
   ·refine ax rfl g (av (ai (aa (vI 0) (af ?_))))
    obtain rfl:=ae b
    exact aC (aN [(vI 0)] ⟨rfl,trivial⟩)
theorem FX {b:Int} {c:Int} {r:Bool} (d:cmp_Less_int b c=some r) :
  FnM Tryz.prog 107 [(vI b),(vI c)] [] (vB r) []:=by
 refine FnM.of_wH ⟨Tryz.prog,17,[],[]⟩ rfl Tryz.func107 rfl rfl (lb_ rfl) (by kernel_rfl) ?_
 unfold cmp_Less_int at d
 refine ai (aa (vB false) (af (ak ?_)))
 obtain ⟨h,a,d⟩:=bind_some d
 refine aR [(4,(vB h))] [] ?_ ?_
 ·refine au (aa (vI b) ?_)
  obtain ⟨n,k,a⟩:=bind_some a
  refine aB (pF k) rfl hb77 rfl rfl rfl rfl wz ?_
  rcases aj a with⟨f,a⟩|⟨f,a⟩
  ·refine aH rfl f wz (aL (vI c) wa rfl ?_)
   obtain ⟨g,l,a⟩:=bind_some a
   refine aB (pF l) rfl hb77 rfl rfl rfl rfl wa (aL (vB (!g)) wa rfl (aa (vB (!g)) ?_))
   rcases aj a with⟨e,a⟩|⟨e,a⟩
   ·refine aH rfl e wz (ah (ah (ah (aa (vB true) (aa (vB true) (af ?_))))))
    obtain rfl:=ae a
    exact cu
   ·refine aH rfl e wz (aL (vI b) wa rfl (aL (vI c) wa rfl (aL (vB (decide (b<c))) wa rfl (aa (vB (decide (b<c))) (aa (vB (decide (b<c))) (af ?_))))))
    obtain rfl:=ae a
    exact cu
  ·refine aH rfl f wz (ah (ah (ah (aa (vB false) (aa (vB false) (aL (vI b) wa rfl (aL (vI c) wa rfl (aL (vB (decide (b<c))) wa rfl (aa (vB (decide (b<c))) (aa (vB (decide (b<c))) (af ?_)))))))))))
   obtain rfl:=ae a
   exact cu
 ·rintro ⟨⟩ _ o m i j
  refine aO _ i j ?_
  obtain rfl:=ae d
  exact aC (aN [(vB h)] ⟨rfl,trivial⟩)
theorem u6 {a:Int} {r:Bool} (b:kL a=some r) :
  FnM Tryz.prog 201 [(vI a)] [] (vB r) []:=by
 refine FnM.of_wH ⟨Tryz.prog,6,[],[]⟩ rfl Tryz.func201 rfl rfl (lb_ rfl) (by kernel_rfl) ?_
 unfold kL at b
 refine ai (aa (vB false) (af (ai (aa (vI a) (aa (vI a) (aa (vB (a != a)) (aa (vB (a != a)) (af ?_))))))))
 obtain rfl:=ae b
 exact aC (aN [(vB (a != a))] ⟨rfl,trivial⟩)
theorem sS {c:(List Int)} {f:Int} {r:Int×Bool} (h:fE c f=some r) :
  FnM Tryz.prog 179 [(vL eI c),(vI f)] [] (.tup [(vI r.1),(vB r.2)]) []:=by
 refine FnM.of_wH ⟨Tryz.prog,54,[],[]⟩ rfl Tryz.func179 rfl rfl (lb_ rfl) (by kernel_rfl) ?_
 unfold fE at h
 refine ai (aa (vI 0) (aa (vB false) (af (ai (aa (vL eI c) (bA Ar rfl wz (aa (vI (c.length:Int)) (af (ai (aa (vI (c.length:Int)) (aa (vI 0) (aa (vI (c.length:Int)) (af (ak ?_))))))))))))))
 obtain ⟨H,p,h⟩:=bind_some h
 obtain ⟨G,p⟩:=bv p
 refine cB (λ(a:Int×Int)=>[(0,(vL eI c)),(1,(vI f)),(6,(vI (c.length:Int))),(7,(vI a.1))]) (λ(a:Int×Int)=>[]) (λ(i:Nat)=>(λ(a:Int×Int)=>[(0,(vL eI c)),(1,(vI f)),(6,(vI (c.length:Int))),(7,(vI a.1)),(8,(vI a.2))])) (λs=>gp c f s) H G (0,(c.length:Int)) p rfl (aG rfl) ?_ ?_
 ·rintro ⟨i,a⟩ g
  dsimp only at g
  cases i with
  | zero=>cases g
  | succ i =>
   obtain ⟨L,d,g⟩:=bind_some g
   unfold gp at d
   refine ak (ai (aa (vI a.1) (aa (vI a.2) (aa (vB (decide (a.1<a.2))) (af ?_)))))
   rcases aj d with⟨k,d⟩|⟨k,d⟩
   ·refine ay rfl k (av (aM (ai (aa (vI a.1) (aa (vI a.2) (aa (vI (w64 (a.1+a.2))) (rY un3 Io rfl wz ?_)))))))
    obtain ⟨e,F,d⟩:=bind_some d
    refine Mt rfl rfl F wz (rY Io un3 rfl wz (aa (vI (w64 e)) (af (ai (aa (vL eI c) (aa (vI (w64 e)) ?_))))))
    obtain ⟨J,B,d⟩:=bind_some d
    refine dC pQ rfl rfl B rfl wz (bE sz3 ag3 rfl (vI J) rfl wz (aa (vI f) ?_))
    obtain ⟨M,y,d⟩:=bind_some d
    refine aB (FX y) rfl hb107 rfl rfl rfl rfl wz (af ?_)
    rcases aj d with⟨l,d⟩|⟨l,d⟩
    ·refine ay rfl l (au (aa (vI (w64 e)) (aa (vI (w64 ((w64 e)+1))) (aa (vI (w64 ((w64 e)+1))) (af ?_)))))
     obtain rfl:=ae d
     exact aV (i,((w64 ((w64 e)+1)),a.2)) g (ls_ _) rfl (aG rfl)
    ·refine ax rfl l (au (aa (vI (w64 e)) (aa (vI (w64 e)) (af ?_))))
     obtain rfl:=ae d
     exact aV (i,(a.1,(w64 e))) g (ls_ _) rfl (aG rfl)
   ·refine ax rfl k (aU ?_)
    obtain rfl:=ae d
    obtain rfl:=ae g
    exact aW ((a.1,a.2)) rfl rfl (aG rfl)
 ·rintro a x I w q t
  subst x
  refine aO _ q t (ak ?_)
  obtain ⟨u,b,h⟩:=bind_some h
  refine aR [(4,(vI a.1)),(5,(vB u))] [] ?_ ?_
  ·refine au (aa (vI a.1) (aa (vI a.1) (aa (vI (c.length:Int)) (aa (vB (decide (a.1<(c.length:Int)))) ?_))))
   rcases aj b with⟨m,b⟩|⟨m,b⟩
   ·refine aH rfl m wz (aL (vL eI c) wa rfl (aL (vI a.1) wa rfl ?_))
    obtain ⟨v,C,b⟩:=bind_some b
    refine dC pQ rfl rfl C rfl wa (bE sz3 ag3 rfl (vI v) rfl wa (aL (vI f) wa rfl (aL (vB (v==f)) wa rfl ?_)))
    rcases aj b with⟨n,b⟩|⟨n,b⟩
    ·refine aH rfl n wa (ah (ah (ah (ah (ah (ah (dK (wn rfl rfl) (dK (wn rfl rfl) (ah (aL (vB true) wa rfl (aa (vB true) (aa (vI a.1) (aa (vB true) (af ?_))))))))))))))
     obtain rfl:=ae b
     exact cu
    ·refine aH rfl n wa (aL (vL eI c) wa rfl (aL (vI a.1) wa rfl ?_))
     obtain ⟨K,E,b⟩:=bind_some b
     refine dC pQ rfl rfl E rfl wa (bE sz3 ag3 rfl (vI K) rfl wa ?_)
     obtain ⟨N,z,b⟩:=bind_some b
     refine aB (u6 z) rfl hb201 rfl rfl rfl rfl wa ?_
     rcases aj b with⟨o,b⟩|⟨o,b⟩
     ·refine aH rfl o wa (aL (vI f) wa rfl ?_)
      obtain ⟨j,A,b⟩:=bind_some b
      refine aB (u6 A) rfl hb201 rfl rfl rfl rfl wa (aL (vB j) wa rfl (aL (vB j) wa rfl (aa (vB j) (aa (vI a.1) (aa (vB j) (af ?_))))))
      obtain rfl:=ae b
      exact cu
     ·refine aH rfl o wa (ah (ah (aL (vB false) wa rfl (aL (vB false) wa rfl (aa (vB false) (aa (vI a.1) (aa (vB false) (af ?_))))))))
      obtain rfl:=ae b
      exact cu
   ·refine aH rfl m wz (ah (ah (ah (ah (ah (ah (ah (dK (wn rfl rfl) (dK (wn rfl rfl) (dK (wn rfl rfl) (dK (wn rfl rfl) (dK (wn rfl rfl) (dK (wn rfl rfl) (dK (wn rfl rfl) (dK (wn rfl rfl) (dK (wn rfl rfl) (ah (aa (vB false) (aa (vI a.1) (aa (vB false) (af ?_)))))))))))))))))))))
    obtain rfl:=ae b
    exact cu
  ·rintro ⟨⟩ _ I w q t
   refine aO _ q t ?_
   obtain rfl:=ae h
   exact aC (aN [(vI a.1),(vB u)] ⟨rfl,⟨rfl,trivial⟩⟩)
end Go.Proofs.YtnfojnnfidnikaeGreatDoor.Law

