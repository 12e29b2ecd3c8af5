/-
 The machine computes these plain functions (written by a program of ours).
-/
import Derived.Test.YtnfojnnfidnikaeGreatDoorFacts
import Derived.Test.YtnfojnnfidnikaeGreatDoorDefs
import Derived.Test.YtnfojnnfidnikaeGreatDoorPf1
open Go Go.Eng Go.Proofs
namespace Go.Proofs.YtnfojnnfidnikaeGreatDoor.Law
set_option maxRecDepth 100000
set_option linter.unusedVariables false
set_option maxHeartbeats 1000000
theorem jv {k:(List Log_)} {f:Int} {h:Int} {r:(List Log_)} (p:dJ k f h=some r) :
  FnM Tryz.prog 98 [(dV (aA 0) 6 k),(vI f),(vI h),(.fn 32 [])] (([]:List Box)++gI 6 Log_.enc k) (.tup []) (([]:List Box).map some++gT k (gB 6 Log_.enc r)):=by
 refine FnM.of_wHv ⟨Tryz.prog,53,[],[]⟩ rfl Tryz.func98 rfl rfl (lb_ rfl) (by kernel_rfl) ?_
 unfold dJ at p
 refine ai (aa (vI f) (aa (vI (w64 (f+1))) (aa (vI (w64 (f+1))) (af ?_))))
 obtain ⟨Z,y,p⟩:=bind_some p
 obtain ⟨Y,y⟩:=bv y
 refine cB (λ(c:(List Log_)×Int)=>[]) (λ(c:(List Log_)×Int)=>[((aA 0),gB 6 Log_.enc c.1)]) (λ(u:Nat)=>(λ(c:(List Log_)×Int)=>[(0,(dV (aA 0) 6 c.1)),(1,(vI f)),(2,(vI h)),(3,(.fn 32 [])),(8,(vI c.2))])) (λs=>fe h f s) Z Y (k,(w64 (f+1))) y rfl (aG rfl) ?_ ?_
 ·rintro ⟨u,c⟩ l
  dsimp only at l
  cases u with
  | zero=>cases l
  | succ u =>
   obtain ⟨L,j,l⟩:=bind_some l
   unfold fe at j
   refine ak (ai (aa (vI c.2) (aa (vI h) (aa (vB (decide (c.2<h))) (af ?_)))))
   rcases aj j with⟨v,j⟩|⟨v,j⟩
   ·refine ay rfl v (av (ak (aM (ai (aa (vI c.2) (aa (vI c.2) (af ?_)))))))
    obtain ⟨À,z,j⟩:=bind_some j
    obtain ⟨X,z⟩:=bv z
    refine cB (λ(a:(List Log_)×Int)=>[(0,(dV (aA 0) 6 a.1)),(1,(vI f)),(2,(vI h)),(3,(.fn 32 [])),(8,(vI c.2))]) (λ(a:(List Log_)×Int)=>[((aA 0),gB 6 Log_.enc a.1)]) (λ(t:Nat)=>(λ(a:(List Log_)×Int)=>[(0,(dV (aA 0) 6 a.1)),(1,(vI f)),(2,(vI h)),(3,(.fn 32 [])),(8,(vI c.2)),(9,(vI a.2))])) (λs=>fA f s) À X (c.1,c.2) z rfl (aG rfl) ?_ ?_
    ·rintro ⟨t,a⟩ m
     dsimp only at m
     cases t with
     | zero=>cases m
     | succ t =>
      obtain ⟨L,b,m⟩:=bind_some m
      unfold fA at b
      refine ak (ak ?_)
      obtain ⟨Á,e,b⟩:=bind_some b
      refine aR [(0,(dV (aA 0) 6 a.1)),(1,(vI f)),(2,(vI h)),(3,(.fn 32 [])),(8,(vI c.2)),(9,(vI a.2)),(34,(vB Á))] [((aA 0),gB 6 Log_.enc a.1)] ?_ ?_
      ·refine bg (aa (vI a.2) (aa (vI f) (aa (vB (decide (a.2>f))) ?_)))
       rcases aj e with⟨w,e⟩|⟨w,e⟩
       ·refine aH rfl w wz (aL (.fn 32 []) wa rfl (aL (dV (aA 0) 6 a.1) wa rfl (aL (vI a.2) wa rfl ?_)))
        obtain ⟨_,C,e⟩:=bind_some e
        refine je sG rfl rfl (ik C) (dN C) wa ?_
        obtain ⟨M,P,e⟩:=bind_some e
        refine kw 8 0 (.inr (by kernel_rfl)) (λ_ _ ag=>trivial) lw rQ rfl rfl P (.d (.agg (Log_.enc M))) rfl wa (aL (dV (aA 0) 6 a.1) wa rfl (aL (vI a.2) wa rfl (aL (vI (w64 (a.2-1))) wa rfl ?_)))
        obtain ⟨_,E,e⟩:=bind_some e
        refine je sG rfl rfl (ik E) (dN E) wa ?_
        obtain ⟨N,Q,e⟩:=bind_some e
        refine kw 13 0 (.inr (by kernel_rfl)) (λ_ _ ag=>⟨.inl ⟨rfl,rfl⟩,trivial⟩) lw rQ rfl rfl Q (.d (.agg (Log_.enc N))) rfl wa ?_
        obtain ⟨J,O,e⟩:=bind_some e
        refine aB (oJ O) rfl hb32 rfl rfl rfl rfl wa (aL (vB (decide (J<0))) wa rfl (aa (vB (decide (J<0))) (af ?_)))
        obtain rfl:=ae e
        exact cu
       ·refine aH rfl w wz (ah (ah (ah (ah (ah (ah (ah (ah (ah (ah (ah (ah (aa (vB false) (af ?_))))))))))))))
        obtain rfl:=ae e
        exact cu
      ·rintro ⟨⟩ _ K B q n
       refine aO _ q n ?_
       rcases aj b with⟨x,b⟩|⟨x,b⟩
       ·refine ay rfl x (av (ak (aM (bg (aa (dV (aA 0) 6 a.1) (aa (vI a.2) (aa (dV (aA 0) 6 a.1) (aa (vI a.2) (aa (vI (w64 (a.2-1))) (aa (dV (aA 0) 6 a.1) (aa (vI a.2) (aa (vI (w64 (a.2-1))) ?_))))))))))))
        obtain ⟨_,F,b⟩:=bind_some b
        refine je sG rfl rfl (ik F) (dN F) wz ?_
        obtain ⟨g,R,b⟩:=bind_some b
        refine kw 9 0 (.inr (by kernel_rfl)) (λ_ _ ag=>trivial) lw rQ rfl rfl R (.d (.agg (Log_.enc g))) rfl wz (aa (dV (aA 0) 6 a.1) (aa (vI a.2) ?_))
        obtain ⟨_,G,b⟩:=bind_some b
        refine je sG rfl rfl (ik G) (dN G) wz ?_
        obtain ⟨i,T,b⟩:=bind_some b
        refine kw 13 0 (.inr (by kernel_rfl)) (λ_ _ ag=>⟨.inl ⟨rfl,rfl⟩,trivial⟩) lw rQ rfl rfl T (.d (.agg (Log_.enc i))) rfl wz ?_
        obtain ⟨_,H,b⟩:=bind_some b
        refine je sG rfl rfl (ik H) (dN H) wz ?_
        obtain ⟨Â,U,b⟩:=bind_some b
        refine sw 15 (.inr (by kernel_rfl)) (λ_ _ ag=>⟨.inr (.inr (by kernel_rfl)),⟨.inr (.inr (by kernel_rfl)),trivial⟩⟩) 0 lw rfl rfl U g rfl wz (bT (v':=(dV (aA 0) 6 (a.1.set (0+(a.2).toNat) g))) 0 rfl (bC (by simp)) (bT (v':=(dV (aA 0) 6 (a.1.set (0+(a.2).toNat) g))) 37 rfl (bC (by simp)) (bT (v':=(dV (aA 0) 6 (a.1.set (0+(a.2).toNat) g))) 39 rfl (bC (by simp)) (bT (v':=(dV (aA 0) 6 (a.1.set (0+(a.2).toNat) g))) 42 rfl (bC (by simp)) (bT (v':=(dV (aA 0) 6 (a.1.set (0+(a.2).toNat) g))) 47 rfl (bC (by simp)) ?_)))))
        obtain ⟨_,I,b⟩:=bind_some b
        refine je sG rfl rfl (ik I) (dN I) wz ?_
        obtain ⟨Ã,W,b⟩:=bind_some b
        refine sw 17 (.inr (by kernel_rfl)) (λ_ _ ag=>⟨.inr (.inr (by kernel_rfl)),⟨.inr (.inr (by kernel_rfl)),⟨.inr (.inr (by kernel_rfl)),trivial⟩⟩⟩) 0 lw rfl rfl W i rfl wz (bT (v':=(dV (aA 0) 6 ((a.1.set (0+(a.2).toNat) g).set (0+((w64 (a.2-1))).toNat) i))) 0 rfl (bC (by simp)) (bT (v':=(dV (aA 0) 6 ((a.1.set (0+(a.2).toNat) g).set (0+((w64 (a.2-1))).toNat) i))) 37 rfl (bC (by simp)) (bT (v':=(dV (aA 0) 6 ((a.1.set (0+(a.2).toNat) g).set (0+((w64 (a.2-1))).toNat) i))) 39 rfl (bC (by simp)) (bT (v':=(dV (aA 0) 6 ((a.1.set (0+(a.2).toNat) g).set (0+((w64 (a.2-1))).toNat) i))) 42 rfl (bC (by simp)) (bT (v':=(dV (aA 0) 6 ((a.1.set (0+(a.2).toNat) g).set (0+((w64 (a.2-1))).toNat) i))) 47 rfl (bC (by simp)) (af (au (aa (vI a.2) (aa (vI (w64 (a.2-1))) (aa (vI (w64 (a.2-1))) (af ?_)))))))))))
        obtain rfl:=ae b
        exact aV (t,(((a.1.set (0+(a.2).toNat) g).set (0+((w64 (a.2-1))).toNat) i),(w64 (a.2-1)))) m (ls_ _) rfl (aG rfl)
       ·refine ax rfl x (aU ?_)
        obtain rfl:=ae b
        obtain rfl:=ae m
        exact aW ((a.1,a.2)) rfl rfl (aG rfl)
    ·rintro a A K B q n
     subst A
     refine aO _ q n (au (aa (vI c.2) (aa (vI (w64 (c.2+1))) (aa (vI (w64 (c.2+1))) (af ?_)))))
     obtain rfl:=ae j
     exact aV (u,(a.1,(w64 (c.2+1)))) l (ls_ _) rfl (aG rfl)
   ·refine ax rfl v (aU ?_)
    obtain rfl:=ae j
    obtain rfl:=ae l
    exact aW ((c.1,c.2)) rfl rfl (aG rfl)
 ·rintro c A K B q n
  subst A
  show qI _ _ _ _ _ _ _ _
  obtain rfl:=ae p
  exact qz (H0:=([((aA 0),gB 6 Log_.enc c.1)]:Hp)) (sl':=envS []) n (oq (bs:=([]:List Box)) (os:=([]:List Box)) (xs:=k) (o:=gB 6 Log_.enc c.1) (.inl rfl) [] trivial rfl rfl rfl rfl rfl (by kernel_rfl) jm rfl)
theorem qO {i:(List Log_)} {c:Int} {r:(List Log_)} (e:fO i c=some r) :
  FnM Tryz.prog 65 [(dV (aA 0) 6 i),(vI c),(.fn 32 [])] (([]:List Box)++gI 6 Log_.enc i) (.tup []) (([]:List Box).map some++gT i (gB 6 Log_.enc r)):=by
 refine FnM.of_wHv ⟨Tryz.prog,63,[],[]⟩ rfl Tryz.func65 rfl rfl (lb_ rfl) (by kernel_rfl) ?_
 unfold fO at e
 refine ai (aa (vI 20) (af (ai (aa (vI 20) (aa (vI 0) (aa (vI 20) (af (ak ?_))))))))
 obtain ⟨Q,F,e⟩:=bind_some e
 obtain ⟨P,F⟩:=bv F
 refine cB (λ(b:(List Log_)×Int×Int)=>[(0,(dV (aA 0) 6 b.1)),(1,(vI c)),(2,(.fn 32 [])),(6,(vI 20)),(7,(vI b.2.1))]) (λ(b:(List Log_)×Int×Int)=>[((aA 0),gB 6 Log_.enc b.1)]) (λ(w:Nat)=>(λ(b:(List Log_)×Int×Int)=>[(0,(dV (aA 0) 6 b.1)),(1,(vI c)),(2,(.fn 32 [])),(6,(vI 20)),(7,(vI b.2.1)),(8,(vI b.2.2))])) (λs=>iR c s) Q P (i,0,20) F rfl (aG rfl) ?_ ?_
 ·rintro ⟨w,b⟩ j
  dsimp only at j
  cases w with
  | zero=>cases j
  | succ w =>
   obtain ⟨K,f,j⟩:=bind_some j
   unfold iR at f
   refine ak (ai (aa (vI b.2.2) (aa (vI c) (aa (vB (decide (b.2.2<=c))) (af ?_)))))
   rcases aj f with⟨A,f⟩|⟨A,f⟩
   ·refine ay rfl A (av (aM (ai (aa (dV (aA 0) 6 b.1) (aa (vI b.2.1) (aa (vI b.2.2) (aa (.fn 32 []) ?_)))))))
    obtain ⟨x,L,f⟩:=bind_some f
    obtain ⟨_,t,f⟩:=bind_some f
    replace t:=iY t
    refine jN 0 [] 0 0 il ft (jv L) rfl hb98 rfl rfl rfl (by kernel_rfl) rfl (.inr (.inl rfl)) rfl (by kernel_rfl) (by kernel_rfl) (by kernel_rfl) (by kernel_rfl) rfl (by decide) (by kernel_rfl) jm (qY t) wz ([((aA 0),gB 6 Log_.enc x)]:Hp) (by kernel_rfl) (bT (v':=(dV (aA 0) 6 x)) 0 rfl (bC t.symm) (bT (v':=(dV (aA 0) 6 x)) 14 rfl (bC t.symm) (af (ai (aa (vI b.2.2) (aa (vI b.2.2) (af (au (aa (vI b.2.2) (aa (vI 20) (aa (vI (w64 (b.2.2+20))) (aa (vI (w64 (b.2.2+20))) (af ?_)))))))))))))
    obtain rfl:=ae f
    exact aV (w,(x,b.2.2,(w64 (b.2.2+20)))) j (ls_ _) rfl (aG rfl)
   ·refine ax rfl A (aU ?_)
    obtain rfl:=ae f
    obtain rfl:=ae j
    exact aW ((b.1,b.2.1,b.2.2)) rfl rfl (aG rfl)
 ·rintro b q J z m h
  subst q
  refine aO _ m h (ai (aa (dV (aA 0) 6 b.1) (aa (vI b.2.1) (aa (vI c) (aa (.fn 32 []) ?_)))))
  obtain ⟨d,M,e⟩:=bind_some e
  obtain ⟨_,u,e⟩:=bind_some e
  replace u:=iY u
  refine jN 0 [] 0 0 il ft (jv M) rfl hb98 rfl rfl rfl (by kernel_rfl) rfl (.inr (.inl rfl)) rfl (by kernel_rfl) (by kernel_rfl) (by kernel_rfl) (by kernel_rfl) rfl (by decide) (by kernel_rfl) jm (qY u) wz ([((aA 0),gB 6 Log_.enc d)]:Hp) (by kernel_rfl) (bT (v':=(dV (aA 0) 6 d)) 0 rfl (bC u.symm) (bT (v':=(dV (aA 0) 6 d)) 23 rfl (bC u.symm) (af ?_)))
  obtain ⟨R,G,e⟩:=bind_some e
  obtain ⟨O,G⟩:=bv G
  refine cB (λ(a:Int)=>[]) (λ(a:Int)=>[((aA 0),gB 6 Log_.enc d)]) (λ(v:Nat)=>(λ(a:Int)=>[(0,(dV (aA 0) 6 d)),(1,(vI c)),(2,(.fn 32 [])),(6,(vI a))])) (λs=>iJ c s) R O 20 G rfl (aG rfl) ?_ ?_
  ·rintro ⟨v,a⟩ k
   dsimp only at k
   cases v with
   | zero=>cases k
   | succ v =>
    obtain ⟨K,g,k⟩:=bind_some k
    unfold iJ at g
    refine ak (ai (aa (vI a) (aa (vI c) (aa (vB (decide (a<c))) (af ?_)))))
    rcases aj g with⟨B,g⟩|⟨B,g⟩
    ·refine ay rfl B (av (aM (ai (aa (vI a) (aa (vI (w64 (2*a))) (aa (vI 0) (aa (vI (w64 (2*a))) (af (ak ?_)))))))))
     obtain ⟨T,H,g⟩:=bind_some g
     obtain ⟨N,H⟩:=bv H
     refine cB (λ(y:Unit)=>[(0,(dV (aA 0) 6 d)),(1,(vI c)),(2,(.fn 32 [])),(6,(vI a)),(7,(vI 0))]) (λ(y:Unit)=>[((aA 0),gB 6 Log_.enc d)]) (λ(I:Nat)=>(λ(y:Unit)=>[(0,(dV (aA 0) 6 d)),(1,(vI c)),(2,(.fn 32 [])),(6,(vI a)),(7,(vI 0)),(8,(vI (w64 (2*a))))])) (λs=>iL a c s) T N () H rfl (aG rfl) ?_ ?_
     ·rintro ⟨I,y⟩ n
      dsimp only at n
      cases I with
      | zero=>cases n
      | succ I =>
       obtain ⟨K,l,n⟩:=bind_some n
       unfold iL at l
       refine ak (ai (aa (vI (w64 (2*a))) (aa (vI c) (aa (vB (decide ((w64 (2*a))<=c))) (af ?_)))))
       rcases aj l with⟨C,l⟩|⟨C,l⟩
       ·refine ay rfl C (av (aM (ai (aa (dV (aA 0) 6 d) (aa (vI 0) (aa (vI 0) (aa (vI a) (aa (vI (w64 (0+a))) (aa (vI (w64 (2*a))) (aa (.fn 32 []) ?_))))))))))
        cases l
       ·refine ax rfl C (aU ?_)
        obtain rfl:=ae l
        obtain rfl:=ae n
        exact aW (()) rfl rfl (aG rfl)
     ·rintro y q J z m h
      subst q
      refine aO _ m h (ak (ai (aa (vI 0) (aa (vI a) (aa (vI (w64 (0+a))) (aa (vI (w64 (0+a))) (af (ai (aa (vI (w64 (0+a))) (aa (vI c) (aa (vB (decide ((w64 (0+a))<c))) (af ?_))))))))))))
      obtain ⟨U,p,g⟩:=bind_some g
      refine aR [(0,(dV (aA 0) 6 d)),(1,(vI c)),(2,(.fn 32 [])),(6,(vI a))] [((aA 0),gB 6 Log_.enc d)] ?_ ?_
      ·rcases aj p with⟨E,p⟩|⟨E,p⟩
       ·refine ay rfl E (au (aa (dV (aA 0) 6 d) (aa (vI 0) (aa (vI (w64 (0+a))) (aa (vI c) (aa (.fn 32 []) ?_))))))
        cases p
       ·refine ax rfl E (av ?_)
        obtain rfl:=ae p
        exact cu
      ·rintro ⟨⟩ _ J z m h
       refine aO _ m h (au (aa (vI a) (aa (vI (w64 (a*2))) (aa (vI (w64 (a*2))) (af ?_)))))
       obtain rfl:=ae g
       exact aV (v,(w64 (a*2))) k (ls_ _) rfl (aG rfl)
    ·refine ax rfl B (aU ?_)
     obtain rfl:=ae g
     obtain rfl:=ae k
     exact aW (a) rfl rfl (aG rfl)
  ·rintro a q J z m h
   subst q
   show qI _ _ _ _ _ _ _ _
   obtain rfl:=ae e
   exact qz (H0:=([((aA 0),gB 6 Log_.enc d)]:Hp)) (sl':=envS []) h (oq (bs:=([]:List Box)) (os:=([]:List Box)) (xs:=i) (o:=gB 6 Log_.enc d) (.inl rfl) [] trivial rfl rfl rfl rfl rfl (by kernel_rfl) jm rfl)
theorem ng {a:(List Log_)} {r:(List Log_)} (b:bZ a=some r) :
  FnM Tryz.prog 31 [(dV (aA 0) 6 a),(.fn 32 [])] (([]:List Box)++gI 6 Log_.enc a) (.tup []) (([]:List Box).map some++gT a (gB 6 Log_.enc r)):=by
 refine FnM.of_wHv ⟨Tryz.prog,9,[],[]⟩ rfl Tryz.func31 rfl rfl (lb_ rfl) (by kernel_rfl) ?_
 unfold bZ at b
 refine au (aa (dV (aA 0) 6 a) (aa (dV (aA 0) 6 a) (xR uK rfl wz (aa (.fn 32 []) ?_))))
 obtain ⟨d,e,b⟩:=bind_some b
 obtain ⟨_,c,b⟩:=bind_some b
 replace c:=iY c
 refine jN 0 [] 0 0 il ft (qO e) rfl hb65 rfl rfl rfl (by kernel_rfl) rfl (.inr (.inl rfl)) rfl (by kernel_rfl) (by kernel_rfl) (by kernel_rfl) (by kernel_rfl) rfl (by decide) (by kernel_rfl) jm (qY c) wz ([((aA 0),gB 6 Log_.enc d)]:Hp) (by kernel_rfl) (bT (v':=(dV (aA 0) 6 d)) 0 rfl (bC c.symm) (bT (v':=(dV (aA 0) 6 d)) 4 rfl (bC c.symm) (bT (v':=(dV (aA 0) 6 d)) 5 rfl (bC c.symm) (af ?_))))
 show qI _ _ _ _ _ _ _ _
 obtain rfl:=ae b
 exact oq (bs:=([]:List Box)) (os:=([]:List Box)) (xs:=a) (o:=gB 6 Log_.enc d) (.inl rfl) [] trivial rfl rfl rfl rfl rfl (by kernel_rfl) jm rfl
theorem qm {a:(List (List Log_))} {r:(List Log_)} (e:dQ a=some r) :
  FnM Tryz.prog 30 [(vL (eL Log_.enc) a)] [] (gV (aA 0) 6 r) (([]:List Box).map some++gO 6 Log_.enc r):=by
 refine FnM.of_wH ⟨Tryz.prog,36,[],[]⟩ rfl Tryz.func30 rfl rfl (lb_ rfl) (by kernel_rfl) ?_
 unfold dQ at e
 refine ai (aa .nil (af (ai (aa (vI 0) (af (ak (ai (aa (vL (eL Log_.enc) a) (bA un128 rfl wz (aa (vI 0) (af ?_)))))))))))
 obtain ⟨R,z,e⟩:=bind_some e
 obtain ⟨O,z⟩:=aY z
 refine bN (λ(b:Int)=>[(0,(vL (eL Log_.enc) a)),(3,(vI b))]) (λ(b:Int)=>[]) (λ(h:Nat)=>(λ(b:Int)=>[(0,(vL (eL Log_.enc) a)),(3,(vI b)),(9,(vL (eL Log_.enc) a)),(10,(vI (a.length:Int))),(11,(vI (h:Int)))])) (λk x s=>bL k x s) R a 0 z rfl (aG rfl) ?_ ?_
 ·rintro ⟨h,E,b⟩ ⟨o,l⟩
  dsimp only at o l
  cases E with
  | nil =>
   obtain rfl:=ae o
   refine ai (aa (vB (decide ((h:Int)<(a.length:Int)))) (af ?_))
   refine ak (ax rfl (drop_nil l) (aU ?_))
   exact aW (b) rfl rfl (aG rfl)
  | cons f E =>
   obtain ⟨L,w,o⟩:=bind_some o
   refine ai (aa (vB (decide ((h:Int)<(a.length:Int)))) (af ?_))
   refine ak (ay rfl (bu l) (av ?_))
   unfold bL at w
   refine ak (aM (ai (dC TC rfl rfl (bI l) rfl wz (bE sz26 ag26 rfl (vL Log_.enc f) rfl wz (aa (vL Log_.enc f) (af (ai (aa (vI b) (aa (vL Log_.enc f) (bA uK rfl wz (aa (vI (w64 (b+(f.length:Int)))) (aa (vI (w64 (b+(f.length:Int)))) (af (ai (aa (vI (w64 (b+(f.length:Int)))) (aa (vB (decide ((w64 (b+(f.length:Int)))<0))) (af ?_)))))))))))))))))
   obtain ⟨U,q,w⟩:=bind_some w
   refine aR [(0,(vL (eL Log_.enc) a)),(3,(vI (w64 (b+(f.length:Int))))),(9,(vL (eL Log_.enc) a)),(10,(vI (a.length:Int))),(11,(vI (h:Int)))] [] ?_ ?_
   ·rcases aj q with⟨y,q⟩|⟨y,q⟩
    ·refine ay rfl y (au ?_)
     cases q
    ·refine ax rfl y (av ?_)
     obtain rfl:=ae q
     exact cu
   ·rintro ⟨⟩ _ K G t u
    refine aO _ t u (au (dH (bz l O) wz rfl (aa (vI ((h+1:Nat):Int)) (af ?_))))
    obtain rfl:=ae w
    exact aV (h+1,E,(w64 (b+(f.length:Int)))) ⟨o,aX l⟩ (ls_ _) rfl (aG rfl)
 ·rintro b B K G t u
  subst B
  refine aO _ t u (ai (aa (vI b) ?_))
  obtain ⟨g,P,e⟩:=bind_some e
  refine QA (enc:=Log_.enc) (si P) rfl hb64 (by kernel_rfl) rfl (by kernel_rfl) wz (λI=>aa (kV g I 6 ([]:List Log_)) (af (ak (ai (aa (vL (eL Log_.enc) a) (bA un128 rfl wz (aa (vI 0) (af ?_))))))))
  obtain ⟨T,A,e⟩:=bind_some e
  obtain ⟨M,A⟩:=aY A
  refine iw (σ:=(List Log_)) (N:=Nm) (λp=>(λ(c:List Log_) (d:Nm)=>([(6,(kV g d 6 c))]:SL_)) p.1 p.2) (λp=>(λ(c:List Log_) (d:Nm)=>([(d,kB g 6 Log_.enc c)]:Hp)) p.1 p.2) (λ(m:Nat)=>(λp=>(λ(c:List Log_) (d:Nm)=>([(6,(kV g d 6 c)),(25,(vL (eL Log_.enc) a)),(26,(vI (a.length:Int))),(27,(vI (m:Int)))]:SL_)) p.1 p.2)) (λk x s=>bK k x s) T a (([]:List Log_),I) A rfl (aG rfl) ?_ ?_
  ·rintro ⟨m,C,c,d⟩ ⟨n,j⟩
   dsimp only at n j
   cases C with
   | nil =>
    obtain rfl:=ae n
    refine ai (aa (vB (decide ((m:Int)<(a.length:Int)))) (af ?_))
    refine ak (ax rfl (drop_nil j) (aU ?_))
    exact aW (c,d) rfl rfl (aG rfl)
   | cons F C =>
    obtain ⟨L,v,n⟩:=bind_some n
    refine ai (aa (vB (decide ((m:Int)<(a.length:Int)))) (af ?_))
    refine ak (ay rfl (bu j) (av ?_))
    unfold bK at v
    refine ak (aM (ai (dC TC rfl rfl (bI j) rfl wz (bE sz26 ag26 rfl (vL Log_.enc F) rfl wz (aa (vL Log_.enc F) (af (au (aa (kV g d 6 c) (aa (vL Log_.enc F) ?_)))))))))
    obtain ⟨H,Q,v⟩:=bind_some v
    refine Sr 0 il ft (i:=0) MC MC lw z37 rfl (by decide) by37 (by decide) (λ_=>rfl) rfl rfl rfl Q wz (λJ=>aa (kV g J 6 H) (af (au (dH (bz j M) wz rfl (aa (vI ((m+1:Nat):Int)) (af ?_))))))
    obtain rfl:=ae v
    exact aV (m+1,C,H,J) ⟨n,aX j⟩ (ls_ _) rfl (aG rfl)
  ·rintro ⟨c,d⟩ B K G t u
   subst B
   refine aO _ t u (ai (aa (kV g d 6 c) (aa (kV g d 6 c) (af ?_))))
   obtain ⟨_,hk_,e⟩:=bind_some e
   refine Pf (v':=(gV d 6 c)) 2 rfl (kV_g hk_) (RA (b':=gB 6 Log_.enc c) 0 rfl (kB_g hk_) ?_)
   obtain rfl:=ae e
   exact aC (finG (outs:=([]:List Box)) (.inr rfl) 0 rfl rfl rfl (by kernel_rfl) (by kernel_rfl))
theorem qa {b:(List Log_)} {r:(List Log_)} (h:dD b=some r) :
  FnM Tryz.prog 33 [(gV (aA 0) 6 b)] (([]:List Box)++gI 6 Log_.enc b) (nN [] (gV (aA 0) 6 r)) (([]:List Box).map some++gT b (gB 6 Log_.enc r)):=by
 refine FnM.of_wHv ⟨Tryz.prog,61,[],[]⟩ rfl Tryz.func33 rfl rfl (lb_ rfl) (by kernel_rfl) ?_
 unfold dD at h
 refine ai (aa .nil (af (ak (ai (aa (gV (aA 0) 6 b) (CB uK rfl wz (aa (vB (decide ((b.length:Int)<2))) (af ?_))))))))
 rcases aj h with⟨A,h⟩|⟨A,h⟩
 ·refine ay rfl A (ai (aa (gV (aA 0) 6 b) (aa (gV (aA 0) 6 b) (af ?_))))
  obtain rfl:=ae h
  exact aC (KA (bs:=[]) (os:=[]) (xs:=b) (ys:=b) [] (.inr rfl) rfl trivial (λh_=>h_) rfl rfl (by kernel_rfl) rfl)
 ·refine ax rfl A (av (ak (ai (aa (vI 1) (af ?_)))))
  obtain ⟨Ã,F,h⟩:=bind_some h
  obtain ⟨Â,F⟩:=bv F
  refine cB (λ(c:Int)=>[(0,(gV (aA 0) 6 b))]) (λ(c:Int)=>[((aA 0),gB 6 Log_.enc b)]) (λ(y:Nat)=>(λ(c:Int)=>[(0,(gV (aA 0) 6 b)),(3,(vI c))])) (λs=>bJ b s) Ã Â 1 F rfl (aG rfl) ?_ ?_
  ·rintro ⟨y,c⟩ o
   dsimp only at o
   cases y with
   | zero=>cases o
   | succ y =>
    obtain ⟨R,e,o⟩:=bind_some o
    unfold bJ at e
    refine ak (ai (aa (vI c) (aa (gV (aA 0) 6 b) (CB uK rfl wz (aa (vB (decide (c<(b.length:Int)))) (af ?_))))))
    rcases aj e with⟨z,e⟩|⟨z,e⟩
    ·refine ay rfl z (av (ak (aM (ak (bg (aa (gV (aA 0) 6 b) (aa (vI c) ?_)))))))
     obtain ⟨_,J,e⟩:=bind_some e
     refine yK sG rfl rfl (ik J) (dN J) wz ?_
     obtain ⟨k,U,e⟩:=bind_some e
     refine kw 3 0 (.inr (by kernel_rfl)) (λ_ _ ag=>trivial) lw rQ rfl rfl U (.d (.agg (Log_.enc k))) rfl wz (aa (gV (aA 0) 6 b) (aa (vI c) (aa (vI (w64 (c-1))) ?_)))
     obtain ⟨_,K,e⟩:=bind_some e
     refine yK sG rfl rfl (ik K) (dN K) wz ?_
     obtain ⟨l,W,e⟩:=bind_some e
     refine kw 8 0 (.inr (by kernel_rfl)) (λ_ _ ag=>⟨.inl ⟨rfl,rfl⟩,trivial⟩) lw rQ rfl rfl W (.d (.agg (Log_.enc l))) rfl wz (aL (vB ((k.Player.toList==l.Player.toList)&&((k.Item.toList==l.Item.toList)&&((k.No==l.No)&&((k.Clock==l.Clock)&&((k.Long==l.Long)&&((k.Sum.toList==l.Sum.toList)&&true))))))) wz (by kernel_rfl) (af ?_))
     rcases aj e with⟨B,e⟩|⟨B,e⟩
     ·refine ay rfl B (ai (aa (gV (aA 0) 6 b) (aa (vI c) ?_)))
      obtain ⟨_,j,e⟩:=bind_some e
      replace j:=Tv j
      refine bT (v':=(vV (aA 0) 6 b)) 0 rfl (Ml j).symm (bT (v':=(vV (aA 0) 6 b)) 11 rfl (Ml j).symm (bT (v':=(vV (aA 0) 6 b)) 16 rfl (Ml j).symm (bT (v':=(vV (aA 0) 6 b)) 20 rfl (Ml j).symm (bT (v':=(vV (aA 0) 6 b)) 26 rfl (Ml j).symm (Nh 0 rfl (Gb j) ?_)))))
      obtain ⟨_,T,e⟩:=bind_some e
      refine Dj uK lw rfl rfl T wz (aa (.vs (aA 0) 6 ((c).toNat) (((b.length:Int)).toNat-(c).toNat)) (af (ak (ai (aa (vI 1) (af ?_))))))
      obtain ⟨Ä,G,e⟩:=bind_some e
      obtain ⟨Á,G⟩:=bv G
      refine cB (λ(a:(List Log_)×Int×Int)=>[(0,(vV (aA 0) 6 a.1)),(3,(vI a.2.1))]) (λ(a:(List Log_)×Int×Int)=>[((aA 0),some (bV 6 Log_.enc a.1))]) (λ(x:Nat)=>(λ(a:(List Log_)×Int×Int)=>[(0,(vV (aA 0) 6 a.1)),(3,(vI a.2.1)),(4,(.vs (aA 0) 6 ((c).toNat) (((b.length:Int)).toNat-(c).toNat))),(5,(vI a.2.2))])) (λs=>gQ b c s) Ä Á (b,c,1) G rfl (aG rfl) ?_ ?_
      ·rintro ⟨x,a⟩ p
       dsimp only at p
       cases x with
       | zero=>cases p
       | succ x =>
        obtain ⟨R,f,p⟩:=bind_some p
        unfold gQ at f
        refine ak (ai (aa (vI a.2.2) (aa (.vs (aA 0) 6 ((c).toNat) (((b.length:Int)).toNat-(c).toNat)) (Tz uK rfl wz (aa (vB (decide (a.2.2<(((((b.length:Int)).toNat-(c).toNat):Nat):Int)))) (af ?_))))))
        rcases aj f with⟨C,f⟩|⟨C,f⟩
        ·refine ay rfl C (av (ak (aM (ak (bg (aa (.vs (aA 0) 6 ((c).toNat) (((b.length:Int)).toNat-(c).toNat)) (aa (vI a.2.2) ?_)))))))
         obtain ⟨_,L,f⟩:=bind_some f
         refine zO sG rfl rfl (AV L) (wU L) wz ?_
         obtain ⟨m,X,f⟩:=bind_some f
         refine Fy 3 0 (.inr (by kernel_rfl)) (λ_ _ ag=>trivial) lw rQ rfl rfl X (.d (.agg (Log_.enc m))) rfl wz (aa (.vs (aA 0) 6 ((c).toNat) (((b.length:Int)).toNat-(c).toNat)) (aa (vI a.2.2) (aa (vI (w64 (a.2.2-1))) ?_)))
         obtain ⟨_,M,f⟩:=bind_some f
         refine zO sG rfl rfl (AV M) (wU M) wz ?_
         obtain ⟨n,Y,f⟩:=bind_some f
         refine Fy 8 0 (.inr (by kernel_rfl)) (λ_ _ ag=>⟨.inl ⟨rfl,rfl⟩,trivial⟩) lw rQ rfl rfl Y (.d (.agg (Log_.enc n))) rfl wz (aL (vB (!((m.Player.toList==n.Player.toList)&&((m.Item.toList==n.Item.toList)&&((m.No==n.No)&&((m.Clock==n.Clock)&&((m.Long==n.Long)&&((m.Sum.toList==n.Sum.toList)&&true)))))))) wz (by kernel_rfl) (af ?_))
         obtain ⟨u,g,f⟩:=bind_some f
         refine aR [(0,(vV (aA 0) 6 u.1)),(3,(vI u.2)),(4,(.vs (aA 0) 6 ((c).toNat) (((b.length:Int)).toNat-(c).toNat))),(5,(vI a.2.2))] [((aA 0),some (bV 6 Log_.enc u.1))] ?_ ?_
         ·rcases aj g with⟨E,g⟩|⟨E,g⟩
          ·refine ay rfl E (ai (aa (vV (aA 0) 6 a.1) (aa (vI a.2.1) (aa (.vs (aA 0) 6 ((c).toNat) (((b.length:Int)).toNat-(c).toNat)) (aa (vI a.2.2) ?_)))))
           obtain ⟨_,N,g⟩:=bind_some g
           refine zO sG rfl rfl (AV N) (wU N) wz ?_
           obtain ⟨v,Z,g⟩:=bind_some g
           refine Fy 0 0 il ft lw rQ rfl rfl Z (.d (.agg (Log_.enc v))) rfl wz ?_
           obtain ⟨_,O,g⟩:=bind_some g
           refine zO sG rfl rfl (ik O) (dN O) wz ?_
           obtain ⟨Å,À,g⟩:=bind_some g
           refine Dw 0 il ft 0 lw rfl rfl À v rfl wz (bT (v':=(vV (aA 0) 6 (a.1.set (0+(a.2.1).toNat) v))) 0 rfl (xS (by simp)) (bT (v':=(vV (aA 0) 6 (a.1.set (0+(a.2.1).toNat) v))) 45 rfl (xS (by simp)) (af (au (aa (vI a.2.1) (aa (vI (w64 (a.2.1+1))) (aa (vI (w64 (a.2.1+1))) (af ?_))))))))
           obtain rfl:=ae g
           exact cu
          ·refine ax rfl E (av ?_)
           obtain rfl:=ae g
           exact cu
         ·rintro ⟨⟩ _ Q I q t
          refine aO _ q t (au (aa (vI a.2.2) (aa (vI (w64 (a.2.2+1))) (aa (vI (w64 (a.2.2+1))) (af ?_)))))
          obtain rfl:=ae f
          exact aV (x,(u.1,u.2,(w64 (a.2.2+1)))) p (ls_ _) rfl (aG rfl)
        ·refine ax rfl C (aU ?_)
         obtain rfl:=ae f
         obtain rfl:=ae p
         exact aW ((a.1,a.2.1,a.2.2)) rfl rfl (aG rfl)
      ·rintro a H Q I q t
       subst H
       refine aO _ q t (ai (aa (vV (aA 0) 6 a.1) (aa (vI a.2.1) ?_)))
       obtain ⟨_,w,e⟩:=bind_some e
       refine Dj uK lw rfl rfl w wz (Qe (i:=0) 0 il ft (⟨(⟨#[]⟩:ByteArray),(⟨#[]⟩:ByteArray),0,0,0,(⟨#[]⟩:ByteArray)⟩:Log_) MC lw z37 rfl rfl rfl (by decide) rfl (tN w) rfl wz (bT (v':=(vV (aA 0) 6 (a.1.take ((a.2.1).toNat)++List.replicate (((a.1.length:Int)).toNat-(a.2.1).toNat) (⟨(⟨#[]⟩:ByteArray),(⟨#[]⟩:ByteArray),0,0,0,(⟨#[]⟩:ByteArray)⟩:Log_)++a.1.drop (((a.2.1).toNat)+(((a.1.length:Int)).toNat-(a.2.1).toNat))))) 0 rfl (xS (Bh (tN w))) (bT (v':=(vV (aA 0) 6 (a.1.take ((a.2.1).toNat)++List.replicate (((a.1.length:Int)).toNat-(a.2.1).toNat) (⟨(⟨#[]⟩:ByteArray),(⟨#[]⟩:ByteArray),0,0,0,(⟨#[]⟩:ByteArray)⟩:Log_)++a.1.drop (((a.2.1).toNat)+(((a.1.length:Int)).toNat-(a.2.1).toNat))))) 54 rfl (xS (Bh (tN w))) (af (ai (aa (vV (aA 0) 6 (a.1.take ((a.2.1).toNat)++List.replicate (((a.1.length:Int)).toNat-(a.2.1).toNat) (⟨(⟨#[]⟩:ByteArray),(⟨#[]⟩:ByteArray),0,0,0,(⟨#[]⟩:ByteArray)⟩:Log_)++a.1.drop (((a.2.1).toNat)+(((a.1.length:Int)).toNat-(a.2.1).toNat)))) (aa (vI a.2.1) ?_)))))))
       obtain ⟨_,P,e⟩:=bind_some e
       refine Nb uK lw rfl rfl P wz (aa (.vs (aA 0) 6 0 ((a.2.1).toNat)) (af ?_))
       obtain ⟨_,hk_,e⟩:=bind_some e
       refine Pf (v':=(vV (aA 0) 6 ((a.1.take ((a.2.1).toNat)++List.replicate (((a.1.length:Int)).toNat-(a.2.1).toNat) (⟨(⟨#[]⟩:ByteArray),(⟨#[]⟩:ByteArray),0,0,0,(⟨#[]⟩:ByteArray)⟩:Log_)++a.1.drop (((a.2.1).toNat)+(((a.1.length:Int)).toNat-(a.2.1).toNat))).take ((a.2.1).toNat)))) 2 rfl (vV_take (tN P)) (wH_shr 0 ((a.2.1).toNat) rfl (Pf (v':=(gV (aA 0) 6 ((a.1.take ((a.2.1).toNat)++List.replicate (((a.1.length:Int)).toNat-(a.2.1).toNat) (⟨(⟨#[]⟩:ByteArray),(⟨#[]⟩:ByteArray),0,0,0,(⟨#[]⟩:ByteArray)⟩:Log_)++a.1.drop (((a.2.1).toNat)+(((a.1.length:Int)).toNat-(a.2.1).toNat))).take ((a.2.1).toNat)))) 2 rfl (Qh (Qv hk_)).symm (RA (b':=gB 6 Log_.enc ((a.1.take ((a.2.1).toNat)++List.replicate (((a.1.length:Int)).toNat-(a.2.1).toNat) (⟨(⟨#[]⟩:ByteArray),(⟨#[]⟩:ByteArray),0,0,0,(⟨#[]⟩:ByteArray)⟩:Log_)++a.1.drop (((a.2.1).toNat)+(((a.1.length:Int)).toNat-(a.2.1).toNat))).take ((a.2.1).toNat))) 0 rfl (Gb (Qv hk_)).symm ?_)))
       obtain rfl:=ae e
       obtain rfl:=ae o
       obtain rfl:=ae h
       exact aC (KA (bs:=[]) (os:=[]) (xs:=b) (ys:=((a.1.take ((a.2.1).toNat)++List.replicate (((a.1.length:Int)).toNat-(a.2.1).toNat) (⟨(⟨#[]⟩:ByteArray),(⟨#[]⟩:ByteArray),0,0,0,(⟨#[]⟩:ByteArray)⟩:Log_)++a.1.drop (((a.2.1).toNat)+(((a.1.length:Int)).toNat-(a.2.1).toNat))).take ((a.2.1).toNat))) [] (.inr rfl) rfl trivial (Uw hk_) rfl rfl (by kernel_rfl) rfl)
     ·refine ax rfl B (av (au (aa (vI c) (aa (vI (w64 (c+1))) (aa (vI (w64 (c+1))) (af ?_))))))
      obtain rfl:=ae e
      exact aV (y,(w64 (c+1))) o (ls_ _) rfl (aG rfl)
    ·refine ax rfl z (aU ?_)
     obtain rfl:=ae e
     obtain rfl:=ae o
     exact aW (c) rfl rfl (aG rfl)
  ·rintro c H Q I q t
   subst H
   refine aO _ q t (ai (aa (gV (aA 0) 6 b) (aa (gV (aA 0) 6 b) (af ?_))))
   obtain rfl:=ae h
   exact aC (KA (bs:=[]) (os:=[]) (xs:=b) (ys:=b) [] (.inr rfl) rfl trivial (λh_=>h_) rfl rfl (by kernel_rfl) rfl)
theorem xK {c:(List Log_)} {r:(List Log_)} (h:jC c=some r) :
  FnM Tryz.prog 8 [(dV (aA 0) 6 c)] (([]:List Box)++gI 6 Log_.enc c) (.tup []) (([]:List Box).map some++gT c (gB 6 Log_.enc r)):=by
 refine FnM.of_wHv ⟨Tryz.prog,14,[],[]⟩ rfl Tryz.func8 rfl rfl (lb_ rfl) (by kernel_rfl) ?_
 unfold jC at h
 refine ai (dA 0 (.inl rfl) z37 rfl wz (λl=>af (ai (aa (dV (aA 0) 6 c) (xR uK rfl wz (aa (vI 0) (af ?_)))))))
 obtain ⟨u,i,h⟩:=bind_some h
 obtain ⟨n,i⟩:=aY i
 refine bN (λ(a:List Log_)=>[]) (λ(a:List Log_)=>[((aA 0),gB 6 Log_.enc a),(l,some (.cells 6 [(vS (⟨#[]⟩:ByteArray)),(vS (⟨#[]⟩:ByteArray)),(vI 0),(vI 0),(vI 0),(vS (⟨#[]⟩:ByteArray))]))]) (λ(b:Nat)=>(λ(a:List Log_)=>[(0,(dV (aA 0) 6 a)),(2,(.ref l 0 0)),(5,(vI (c.length:Int))),(6,(vI (b:Int)))])) (λk x s=>jP k x s) u (List.range ((c.length:Int)).toNat) c i rfl (aG rfl) ?_ ?_
 ·rintro ⟨b,j,a⟩ ⟨g,f⟩
  dsimp only at g f
  cases j with
  | nil =>
   obtain rfl:=ae g
   refine ai (aa (vB (decide ((b:Int)<(c.length:Int)))) (af ?_))
   refine ak (ax rfl (lH f) (aU ?_))
   exact aW (a) rfl rfl (aG rfl)
  | cons B j =>
   obtain ⟨w,e,g⟩:=bind_some g
   refine ai (aa (vB (decide ((b:Int)<(c.length:Int)))) (af ?_))
   refine ak (ay rfl (jZ f) (av ?_))
   unfold jP at e
   refine ak (aM (ai (aa (vI (b:Int)) (aa (vI (b:Int)) (af (au (aa (dV (aA 0) 6 a) (aa (vI (b:Int)) (aI 0 1 il ft lw rQ rfl rfl (.d (.agg (Log_.enc (⟨(⟨#[]⟩:ByteArray),(⟨#[]⟩:ByteArray),0,0,0,(⟨#[]⟩:ByteArray)⟩:Log_)))) rfl wz ?_)))))))))
   obtain ⟨_,m,e⟩:=bind_some e
   refine je sG rfl rfl (ik m) (dN m) wz ?_
   obtain ⟨y,t,e⟩:=bind_some e
   refine sw 0 il ft 0 lw rfl rfl t (⟨(⟨#[]⟩:ByteArray),(⟨#[]⟩:ByteArray),0,0,0,(⟨#[]⟩:ByteArray)⟩:Log_) rfl wz (bT (v':=(dV (aA 0) 6 (a.set (0+((b:Int)).toNat) (⟨(⟨#[]⟩:ByteArray),(⟨#[]⟩:ByteArray),0,0,0,(⟨#[]⟩:ByteArray)⟩:Log_)))) 0 rfl (bC (by simp)) (bT (v':=(dV (aA 0) 6 (a.set (0+((b:Int)).toNat) (⟨(⟨#[]⟩:ByteArray),(⟨#[]⟩:ByteArray),0,0,0,(⟨#[]⟩:ByteArray)⟩:Log_)))) 9 rfl (bC (by simp)) (af (au (dH (lF f n) wz rfl (aa (vI ((b+1:Nat):Int)) (af ?_)))))))
   obtain rfl:=ae e
   exact aV (b+1,j,(a.set (0+((b:Int)).toNat) (⟨(⟨#[]⟩:ByteArray),(⟨#[]⟩:ByteArray),0,0,0,(⟨#[]⟩:ByteArray)⟩:Log_))) ⟨g,aX f⟩ (ls_ _) rfl (aG rfl)
 ·rintro a p A v z q
  subst p
  show qI _ _ _ _ _ _ _ _
  obtain rfl:=ae h
  exact qz (H0:=([((aA 0),gB 6 Log_.enc a),(l,some (.cells 6 [(vS (⟨#[]⟩:ByteArray)),(vS (⟨#[]⟩:ByteArray)),(vI 0),(vI 0),(vI 0),(vS (⟨#[]⟩:ByteArray))]))]:Hp)) (sl':=envS []) q (oq (bs:=([]:List Box)) (os:=([]:List Box)) (xs:=c) (o:=gB 6 Log_.enc a) (.inl rfl) [] trivial rfl rfl rfl rfl rfl (by kernel_rfl) jm rfl)
theorem DF {g:(List Log_)} {h:(List Log_)} {r:(List Log_)×Int} (a:qi g h=some r) :
  FnM Tryz.prog 7 [(vL Log_.enc g),(vL Log_.enc h)] [] (nN [.int .i64 r.2] (gV (aA 0) 6 r.1)) (([]:List Box).map some++gO 6 Log_.enc r.1):=by
 refine FnM.of_wH ⟨Tryz.prog,52,[],[]⟩ rfl Tryz.func7 rfl rfl (lb_ rfl) (by kernel_rfl) ?_
 unfold qi at a
 refine ai (aa .nil (aa (vI 0) (af (ak (ai (aa (vL Log_.enc g) (aa (vL Log_.enc h) (aL (.d (.agg [dl Log_.enc g,dl Log_.enc h])) wz (by kernel_rfl) (aa (vI 0) (af ?_))))))))))
 obtain ⟨Â,A,a⟩:=bind_some a
 obtain ⟨P,A⟩:=aY A
 refine bN (λ(t:Unit)=>[(0,(vL Log_.enc g)),(1,(vL Log_.enc h))]) (λ(t:Unit)=>[]) (λ(n:Nat)=>(λ(t:Unit)=>[(0,(vL Log_.enc g)),(1,(vL Log_.enc h)),(13,(.d (.agg [dl Log_.enc g,dl Log_.enc h]))),(14,(vI (n:Int)))])) (λk x s=>jR g h k x s) Â (List.range (2:Int).toNat) () A rfl (aG rfl) ?_ ?_
 ·rintro ⟨n,G,t⟩ ⟨l,p⟩
  dsimp only at l p
  cases G with
  | nil =>
   obtain rfl:=ae l
   refine ai (aa (vB (decide ((n:Int)<2))) (af ?_))
   refine ak (ax rfl (lH p) (aU ?_))
   exact aW (t) rfl rfl (aG rfl)
  | cons É G =>
   obtain ⟨M,i,l⟩:=bind_some l
   refine ai (aa (vB (decide ((n:Int)<2))) (af ?_))
   refine ak (ay rfl (jZ p) (av ?_))
   unfold jR at i
   refine ak (aM (ai ?_))
   obtain ⟨H,Y,i⟩:=bind_some i
   refine SE (enc:=(eL Log_.enc)) (xs:=([g,h]:List (List Log_))) un76 sz26 ag26 rfl rfl rfl rfl Y (λ_=>rfl) (.inr rfl) (vL Log_.enc H) rfl wz (aa (vL Log_.enc H) (af (ai (aa (vL Log_.enc H) ?_))))
   obtain ⟨o,Q,i⟩:=bind_some i
   refine aB (nC Q) rfl hb29 rfl rfl rfl rfl wz (aa (vI o) (af (ai (aa (vI o) (aa (vB (o != 0)) (af ?_))))))
   rcases aj i with⟨v,i⟩|⟨v,i⟩
   ·refine ay rfl v (ai (aa (vI o) (aa .nil (aa (vI o) (af (iM (λÆ => ?_)))))))
    obtain rfl:=ae i
    obtain rfl:=ae l
    obtain rfl:=ae a
    exact aC (yD (outs:=([]:List Box)) [.int .i64 o] (.inr rfl) 0 rfl ⟨rfl,trivial⟩ rfl rfl (by kernel_rfl) (by kernel_rfl))
   ·refine ax rfl v (av (au (dH (lF p P) wz rfl (aa (vI ((n+1:Nat):Int)) (af ?_)))))
    obtain rfl:=ae i
    exact aV (n+1,G,()) ⟨l,aX p⟩ (ls_ _) rfl (aG rfl)
 ·rintro t C Å L E F
  subst C
  refine aO _ E F (ai (aa (vL Log_.enc g) (aa (vL Log_.enc h) (eu (([g,h]:List (List Log_)).map (eL Log_.enc)) TC ez128 rfl rfl rfl rfl rfl wz ?_))))
  obtain ⟨K,R,a⟩:=bind_some a
  refine Pj [] (qm R) rfl hb30 rfl (by kernel_rfl) (by kernel_rfl) (by kernel_rfl) (by kernel_rfl) (by kernel_rfl) rfl (by decide) (by kernel_rfl) wz ([]:Hp) (λ_=>by kernel_rfl) (λc=>aa (gV c 6 K) (af (ai (aa (gV c 6 K) ?_))))
  obtain ⟨q,T,a⟩:=bind_some a
  obtain ⟨_,m,a⟩:=bind_some a
  replace m:=iY m
  refine jN 0 [] 0 0 il ft (ng T) rfl hb31 rfl rfl rfl (by kernel_rfl) rfl (.inl rfl) rfl (by kernel_rfl) (by kernel_rfl) (by kernel_rfl) (by kernel_rfl) rfl (by decide) (by kernel_rfl) jm (qY m) wz ([(c,gB 6 Log_.enc q)]:Hp) (by kernel_rfl) (bT (v':=(gV c 6 q)) 26 rfl (jg m.symm) (bT (v':=(gV c 6 q)) 27 rfl (jg m.symm) (bT (v':=(gV c 6 q)) 9 rfl (jg m.symm) (af (ai (aa (gV c 6 q) ?_))))))
  obtain ⟨f,U,a⟩:=bind_some a
  obtain ⟨_,X,a⟩:=bind_some a
  refine NZ [] 0 [] 0 0 il ft (qa U) (Rl X) rfl hb33 rfl rfl (by kernel_rfl) (by kernel_rfl) rfl rfl (by kernel_rfl) (by kernel_rfl) (by kernel_rfl) rfl (by decide) (by kernel_rfl) wz ([(c,gB 6 Log_.enc f)]:Hp) (by kernel_rfl) (aa (gV c 6 f) (af (ak (ai (aa (vI 1) (af ?_))))))
  obtain ⟨Ã,B,a⟩:=bind_some a
  obtain ⟨Á,B⟩:=bv B
  refine cB (λ(e:Int)=>[(9,(gV c 6 f))]) (λ(e:Int)=>[(c,gB 6 Log_.enc f)]) (λ(u:Nat)=>(λ(e:Int)=>[(9,(gV c 6 f)),(10,(vI e))])) (λs=>lm f s) Ã Á 1 B rfl (aG rfl) ?_ ?_
  ·rintro ⟨u,e⟩ j
   dsimp only at j
   cases u with
   | zero=>cases j
   | succ u =>
    obtain ⟨M,b,j⟩:=bind_some j
    unfold lm at b
    refine ak (ai (aa (vI e) (aa (gV c 6 f) (CB uK rfl wz (aa (vB (decide (e<(f.length:Int)))) (af ?_))))))
    rcases aj b with⟨w,b⟩|⟨w,b⟩
    ·refine ay rfl w (av (ak (aM (ak (bg (aa (gV c 6 f) (aa (vI e) (aa (vI (w64 (e-1))) ?_))))))))
     obtain ⟨_,I,b⟩:=bind_some b
     refine yK sG rfl rfl (ik I) (dN I) wz ?_
     obtain ⟨N,Z,b⟩:=bind_some b
     refine kw 4 0 (.inr (by kernel_rfl)) (λ_ _ ag=>trivial) lw rQ rfl rfl Z (.d (.agg (Log_.enc N))) rfl wz (aa (gV c 6 f) (aa (vI e) ?_))
     obtain ⟨_,J,b⟩:=bind_some b
     refine yK sG rfl rfl (ik J) (dN J) wz ?_
     obtain ⟨O,À,b⟩:=bind_some b
     refine kw 8 0 (.inr (by kernel_rfl)) (λ_ _ ag=>⟨.inl ⟨rfl,rfl⟩,trivial⟩) lw rQ rfl rfl À (.d (.agg (Log_.enc O))) rfl wz ?_
     obtain ⟨Ä,W,b⟩:=bind_some b
     refine aB (oJ W) rfl hb32 rfl rfl rfl rfl wz (aa (vB (Ä==0)) (af ?_))
     rcases aj b with⟨y,b⟩|⟨y,b⟩
     ·refine ay rfl y (ai (aa .nil (aa (vI 13) (af (iM (λÇ => ?_))))))
      obtain rfl:=ae b
      obtain rfl:=ae j
      obtain rfl:=ae a
      exact aC (yD (outs:=([]:List Box)) [.int .i64 13] (.inr rfl) 1 rfl ⟨rfl,trivial⟩ rfl rfl (by kernel_rfl) (by kernel_rfl))
     ·refine ax rfl y (av (au (aa (vI e) (aa (vI (w64 (e+1))) (aa (vI (w64 (e+1))) (af ?_))))))
      obtain rfl:=ae b
      exact aV (u,(w64 (e+1))) j (ls_ _) rfl (aG rfl)
    ·refine ax rfl w (aU ?_)
     obtain rfl:=ae b
     obtain rfl:=ae j
     exact aW (e) rfl rfl (aG rfl)
  ·rintro e C Å L E F
   subst C
   refine aO _ E F (ak (ai (aa (gV c 6 f) (CB uK rfl wz (aa (vB (decide ((f.length:Int)>2000))) (af ?_))))))
   rcases aj a with⟨z,a⟩|⟨z,a⟩
   ·refine ay rfl z (ai (aa .nil (aa (vI 2) (af (iM (λÈ => ?_))))))
    obtain rfl:=ae a
    exact aC (yD (outs:=([]:List Box)) [.int .i64 2] (.inr rfl) 1 rfl ⟨rfl,trivial⟩ rfl rfl (by kernel_rfl) (by kernel_rfl))
   ·refine ax rfl z (av (ai (aa (gV c 6 f) (aa (gV c 6 f) (aa (vI 0) (af ?_))))))
    obtain rfl:=ae a
    exact aC (yD (outs:=([]:List Box)) [.int .i64 0] (.inr rfl) 0 rfl ⟨rfl,trivial⟩ rfl rfl (by kernel_rfl) (by kernel_rfl))
theorem iH {a:Int} {r:Bool} (c:cK a=some r) :
  FnM Tryz.prog 36 [(vI a)] [] (vB r) []:=by
 refine FnM.of_wH ⟨Tryz.prog,9,[],[]⟩ rfl Tryz.func36 rfl rfl (lb_ rfl) (by kernel_rfl) ?_
 unfold cK at c
 refine ai (aa (vB false) (af (ak ?_)))
 obtain ⟨e,b,c⟩:=bind_some c
 refine aR [(2,(vB e))] [] ?_ ?_
 ·refine au (aa (vI a) (aa (vB (decide (a>=0))) ?_))
  rcases aj b with⟨d,b⟩|⟨d,b⟩
  ·refine aH rfl d wz (aL (vI a) wa rfl (aL (vB (decide (a<345686400000))) wa rfl (aa (vB (decide (a<345686400000))) (aa (vB (decide (a<345686400000))) (af ?_)))))
   obtain rfl:=ae b
   exact cu
  ·refine aH rfl d wz (ah (ah (aa (vB false) (aa (vB false) (af ?_)))))
   obtain rfl:=ae b
   exact cu
 ·rintro ⟨⟩ _ i h f g
  refine aO _ f g ?_
  obtain rfl:=ae c
  exact aC (aN [(vB e)] ⟨rfl,trivial⟩)
theorem zU {b:Beat} {c:Beat} {r:Int} (a:jD b c=some r) :
  FnM Tryz.prog 67 [(.d (.agg (Beat.enc b))),(.d (.agg (Beat.enc c)))] [] (vI r) []:=by
 refine FnM.of_wH ⟨Tryz.prog,17,[],[]⟩ rfl Tryz.func67 rfl rfl (lb_ rfl) (by kernel_rfl) ?_
 unfold jD at a
 refine ai (ib 0 (.inl rfl) (Beat.v b) rfl rfl wz (λk=>ib 0 (.inl rfl) (Beat.v c) rfl rfl wz (λl=>aa (vI 0) (af (ak (bg (aK EK rfl 0 rfl wz (aI 1 0 (.inr (by kernel_rfl)) (λ_ _ ag=>trivial) sz9 ag9 rfl rfl (vS b.Player) rfl wz (aK EK rfl 0 rfl wz (aI 3 1 (.inr (by kernel_rfl)) (λ_ _ ag=>⟨.inl ⟨rfl,rfl⟩,trivial⟩) sz9 ag9 rfl rfl (vS c.Player) rfl wz ?_))))))))))
 obtain ⟨i,g,a⟩:=bind_some a
 refine aB (jG g) rfl Rm rfl rfl rfl rfl wz (aK GI rfl 1 rfl wz (aI 6 0 (.inr (by kernel_rfl)) (λ_ _ ag=>⟨.inl ⟨rfl,rfl⟩,⟨.inl ⟨rfl,rfl⟩,trivial⟩⟩) sz3 ag3 rfl rfl (vI b.At) rfl wz (aK GI rfl 1 rfl wz (aI 8 1 (.inr (by kernel_rfl)) (λ_ _ ag=>⟨.inl ⟨rfl,rfl⟩,⟨.inl ⟨rfl,rfl⟩,⟨.inl ⟨rfl,rfl⟩,trivial⟩⟩⟩) sz3 ag3 rfl rfl (vI c.At) rfl wz ?_))))
 obtain ⟨j,h,a⟩:=bind_some a
 refine aB (jL h) rfl Ri rfl rfl rfl rfl wz (eu (([i,j]:List Int).map eI) pQ zP rfl rfl rfl rfl rfl wz ?_)
 obtain ⟨e,f,a⟩:=bind_some a
 refine aB (qf f) rfl TE rfl rfl rfl rfl wz (aa (vI e) (af ?_))
 obtain rfl:=ae a
 exact aC (aN [(vI e)] ⟨rfl,trivial⟩)
theorem vg {b:(List Beat)} {r:Int} (g:gy b=some r) :
  FnM Tryz.prog 34 [(vL Beat.enc b)] [] (vI r) []:=by
 refine FnM.of_wH ⟨Tryz.prog,69,[],[]⟩ rfl Tryz.func34 rfl rfl (lb_ rfl) (by kernel_rfl) ?_
 unfold gy at g
 refine ai (aa (vI 0) (af (ak (ai (aa (vL Beat.enc b) (bA QN rfl wz (aa (vB (decide ((b.length:Int)>500))) (af ?_))))))))
 rcases aj g with⟨y,g⟩|⟨y,g⟩
 ·refine ay rfl y (ai (aa (vI 2) (af ?_)))
  obtain rfl:=ae g
  exact aC (aN [(vI 2)] ⟨rfl,trivial⟩)
 ·refine ax rfl y (av (ak (ai (aa (vL Beat.enc b) (bA QN rfl wz (aa (vI 0) (af ?_)))))))
  obtain ⟨Y,H,g⟩:=bind_some g
  obtain ⟨N,H⟩:=aY H
  refine bN (λ(q:Unit)=>[]) (λ(q:Unit)=>[]) (λ(c:Nat)=>(λ(q:Unit)=>[(0,(vL Beat.enc b)),(8,(vL Beat.enc b)),(9,(vI (b.length:Int))),(10,(vI (c:Int)))])) (λk x s=>jq b k x s) Y b () H rfl (aG rfl) ?_ ?_
  ·rintro ⟨c,I,q⟩ ⟨h,n⟩
   dsimp only at h n
   cases I with
   | nil =>
    obtain rfl:=ae h
    refine ai (aa (vB (decide ((c:Int)<(b.length:Int)))) (af ?_))
    refine ak (ax rfl (drop_nil n) (aU ?_))
    exact aW (q) rfl rfl (aG rfl)
   | cons e I =>
    obtain ⟨Ä,a,h⟩:=bind_some h
    refine ai (aa (vB (decide ((c:Int)<(b.length:Int)))) (af ?_))
    refine ak (ay rfl (bu n) (av ?_))
    unfold jq at a
    refine ak (aM (ai (aa (vI (c:Int)) (dC K3 rfl rfl (bI n) rfl wz (bE K9 Q9 rfl (.d (.agg (Beat.enc e))) rfl wz (dA 0 (.inl rfl) z66 rfl wz (λp=>aa (vI (c:Int)) (jw 0 il ft 0 K9 rfl rfl (Beat.v e) rfl wz (af (aM (ai (aK EK rfl 0 rfl wz (aI 0 0 il ft sz9 ag9 rfl rfl (vS e.Player) rfl wz ?_)))))))))))))
    obtain ⟨L,P,a⟩:=bind_some a
    refine aB (eU P) rfl CO rfl rfl rfl rfl wz (aa (vB (!L)) (aa (vB (!L)) (af ?_)))
    rcases aj a with⟨w,a⟩|⟨w,a⟩
    ·refine ay rfl w (ai (aa (vI 5) (af ?_)))
     obtain rfl:=ae a
     obtain rfl:=ae h
     obtain rfl:=ae g
     exact aC (aN [(vI 5)] ⟨rfl,trivial⟩)
    ·refine ax rfl w (ak ?_)
     obtain ⟨À,i,a⟩:=bind_some a
     refine aR [(0,(vL Beat.enc b)),(3,(vI (c:Int))),(4,(.ref p 0 0)),(8,(vL Beat.enc b)),(9,(vI (b.length:Int))),(10,(vI (c:Int))),(20,(vB À))] [(p,some (.cells 3 (Beat.v e)))] ?_ ?_
     ·refine au (aK GI rfl 1 rfl wz (aI 0 0 il ft sz3 ag3 rfl rfl (vI e.At) rfl wz ?_))
      obtain ⟨Z,Q,i⟩:=bind_some i
      refine aB (iH Q) rfl KV rfl rfl rfl rfl wz (aa (vB (!Z)) ?_)
      rcases aj i with⟨z,i⟩|⟨z,i⟩
      ·refine aH rfl z wz (ah (ah (ah (aa (vB true) (aa (vB true) (af ?_))))))
       obtain rfl:=ae i
       exact cu
      ·refine aH rfl z wz (aK Ha rfl 2 rfl wa (aI 0 0 il ft sz3 ag3 rfl rfl (vI e.Clock) rfl wa ?_))
       obtain ⟨M,R,i⟩:=bind_some i
       refine aB (bf R) rfl qc rfl rfl rfl rfl wa (aa (vB M) (aa (vB M) (af ?_)))
       obtain rfl:=ae i
       exact cu
     ·rintro ⟨⟩ _ K u l m
      refine aO _ l m ?_
      rcases aj a with⟨A,a⟩|⟨A,a⟩
      ·refine ay rfl A (ai (aa (vI 1) (af ?_)))
       obtain rfl:=ae a
       obtain rfl:=ae h
       obtain rfl:=ae g
       exact aC (aN [(vI 1)] ⟨rfl,trivial⟩)
      ·refine ax rfl A (ak ?_)
       obtain ⟨Á,j,a⟩:=bind_some a
       refine aR [(0,(vL Beat.enc b)),(3,(vI (c:Int))),(4,(.ref p 0 0)),(8,(vL Beat.enc b)),(9,(vI (b.length:Int))),(10,(vI (c:Int))),(30,(vB Á))] [(p,some (.cells 3 (Beat.v e)))] ?_ ?_
       ·refine bg (aa (vI (c:Int)) (aa (vB (decide ((c:Int)>0))) ?_))
        rcases aj j with⟨B,j⟩|⟨B,j⟩
        ·refine aH rfl B wz (aL (vL Beat.enc b) wa rfl (aL (vI (c:Int)) wa rfl (aL (vI (w64 ((c:Int)-1))) wa rfl ?_)))
         obtain ⟨Ã,U,j⟩:=bind_some j
         refine dC K3 rfl rfl U rfl wa (bE K9 Q9 rfl (.d (.agg (Beat.enc Ã))) rfl wa (aI 8 0 (.inr (by kernel_rfl)) (λ_ _ ag=>trivial) K9 Q9 rfl rfl (.d (.agg (Beat.enc e))) rfl wa ?_))
         obtain ⟨J,T,j⟩:=bind_some j
         refine aB (zU T) rfl hb67 rfl rfl rfl rfl wa (aL (vB (decide (J>=0))) wa rfl (aa (vB (decide (J>=0))) (aa (vB (decide (J>=0))) (af ?_))))
         obtain rfl:=ae j
         exact cu
        ·refine aH rfl B wz (ah (ah (ah (ah (ah (ah (ah (ah (aa (vB false) (aa (vB false) (af ?_)))))))))))
         obtain rfl:=ae j
         exact cu
       ·rintro ⟨⟩ _ K u l m
        refine aO _ l m ?_
        rcases aj a with⟨C,a⟩|⟨C,a⟩
        ·refine ay rfl C (ai (aa (vI 7) (af ?_)))
         obtain rfl:=ae a
         obtain rfl:=ae h
         obtain rfl:=ae g
         exact aC (aN [(vI 7)] ⟨rfl,trivial⟩)
        ·refine ax rfl C (ak ?_)
         obtain ⟨Â,f,a⟩:=bind_some a
         refine aR [(0,(vL Beat.enc b)),(8,(vL Beat.enc b)),(9,(vI (b.length:Int))),(10,(vI (c:Int))),(43,(vB Â))] [(p,some (.cells 3 (Beat.v e)))] ?_ ?_
         ·refine bg (aa (vI (c:Int)) (aa (vB (decide ((c:Int)>0))) ?_))
          rcases aj f with⟨E,f⟩|⟨E,f⟩
          ·refine aH rfl E wz (aK EK rfl 0 rfl wa (aI 4 0 (.inr (by kernel_rfl)) (λ_ _ ag=>trivial) sz9 ag9 rfl rfl (vS e.Player) rfl wa (aL (vL Beat.enc b) wa rfl (aL (vI (c:Int)) wa rfl (aL (vI (w64 ((c:Int)-1))) wa rfl ?_)))))
           obtain ⟨o,W,f⟩:=bind_some f
           refine dC K3 rfl rfl W rfl wa (qh EK rfl [.str o.Player,.int .i64 o.At,.int .i64 o.Clock] rfl rfl wa (bE sz9 ag9 rfl (vS o.Player) rfl wa (aL (vB (sEq e.Player o.Player)) wa rfl (aa (vB (sEq e.Player o.Player)) ?_))))
           rcases aj f with⟨F,f⟩|⟨F,f⟩
           ·refine aH rfl F wz (aK Ha rfl 2 rfl wa (aI 15 0 (.inr (by kernel_rfl)) (λ_ _ ag=>⟨.inl ⟨rfl,rfl⟩,trivial⟩) sz3 ag3 rfl rfl (vI e.Clock) rfl wa (aL (vL Beat.enc b) wa rfl (aL (vI (c:Int)) wa rfl (aL (vI (w64 ((c:Int)-1))) wa rfl ?_)))))
            obtain ⟨t,X,f⟩:=bind_some f
            refine dC K3 rfl rfl X rfl wa (qh Ha rfl [.int .i64 t.Clock] rfl rfl wa (bE sz3 ag3 rfl (vI t.Clock) rfl wa (aL (vB (decide (e.Clock<=t.Clock))) wa rfl (aa (vB (decide (e.Clock<=t.Clock))) (aa (vB (decide (e.Clock<=t.Clock))) (af ?_))))))
            obtain rfl:=ae f
            exact cu
           ·refine aH rfl F wz (ah (ah (ah (ah (ah (ah (ah (ah (ah (aa (vB false) (aa (vB false) (af ?_))))))))))))
            obtain rfl:=ae f
            exact cu
          ·refine aH rfl E wz (ah (ah (ah (ah (ah (ah (ah (ah (ah (aa (vB false) (aa (vB false) (ah (ah (ah (ah (ah (ah (ah (ah (ah (aa (vB false) (aa (vB false) (af ?_)))))))))))))))))))))))
           obtain rfl:=ae f
           exact cu
         ·rintro ⟨⟩ _ K u l m
          refine aO _ l m ?_
          rcases aj a with⟨G,a⟩|⟨G,a⟩
          ·refine ay rfl G (ai (aa (vI 16) (af ?_)))
           obtain rfl:=ae a
           obtain rfl:=ae h
           obtain rfl:=ae g
           exact aC (aN [(vI 16)] ⟨rfl,trivial⟩)
          ·refine ax rfl G (av (au (dH (bz n N) wz rfl (aa (vI ((c+1:Nat):Int)) (af ?_)))))
           obtain rfl:=ae a
           exact aV (c+1,I,()) ⟨h,aX n⟩ (ls_ _) rfl (aG rfl)
  ·rintro q O K u l m
   subst O
   refine aO _ l m (ai (aa (vI 0) (af ?_)))
   obtain rfl:=ae g
   exact aC (aN [(vI 0)] ⟨rfl,trivial⟩)
theorem yI {f:(List Beat)} {g:ByteArray} {h:Bool} {r:(List Beat_)} (o:lY f g h=some r) :
  FnM Tryz.prog 68 [(vL Beat.enc f),(vS g),(vB h)] [] (vL Beat_.enc r) []:=by
 refine FnM.of_wH ⟨Tryz.prog,41,[],[]⟩ rfl Tryz.func68 rfl rfl (lb_ rfl) (by kernel_rfl) ?_
 unfold lY at o
 refine ai (aa .nil (af (ai (aa .nil (af (ak (ai (aa (vL Beat.enc f) (bA QN rfl wz (aa (vI 0) (af (iM (λM => ?_)))))))))))))
 obtain ⟨P,w,o⟩:=bind_some o
 obtain ⟨I,w⟩:=aY w
 refine iw (σ:=(List Beat_)) (N:=Nm) (λp=>(λ(e:List Beat_) (c:Nm)=>([(7,(gV c 2 e))]:SL_)) p.1 p.2) (λp=>(λ(e:List Beat_) (c:Nm)=>([(c,gB 2 Beat_.enc e)]:Hp)) p.1 p.2) (λ(j:Nat)=>(λp=>(λ(e:List Beat_) (c:Nm)=>([(1,(vS g)),(2,(vB h)),(7,(gV c 2 e)),(10,(vL Beat.enc f)),(11,(vI (f.length:Int))),(12,(vI (j:Int)))]:SL_)) p.1 p.2)) (λk x s=>kK g h k x s) P f (([]:List Beat_),M) w rfl (aG rfl) ?_ ?_
 ·rintro ⟨j,A,e,c⟩ ⟨m,l⟩
  dsimp only at m l
  cases A with
  | nil =>
   obtain rfl:=ae m
   refine ai (aa (vB (decide ((j:Int)<(f.length:Int)))) (af ?_))
   refine ak (ax rfl (drop_nil l) (aU ?_))
   exact aW (e,c) rfl rfl (aG rfl)
  | cons a A =>
   obtain ⟨R,q,m⟩:=bind_some m
   refine ai (aa (vB (decide ((j:Int)<(f.length:Int)))) (af ?_))
   refine ak (ay rfl (bu l) (av ?_))
   unfold kK at q
   refine ak (aM (ai (dC K3 rfl rfl (bI l) rfl wz (bE K9 Q9 rfl (.d (.agg (Beat.enc a))) rfl wz (dA 0 (.inl rfl) z66 rfl wz (λO=>jw 0 il ft 1 K9 rfl rfl (Beat.v a) rfl wz (af (aM (ai (aK EK rfl 0 rfl wz (aI 0 1 il ft sz9 ag9 rfl rfl (vS a.Player) rfl wz (aa (vS g) (aa (vB (sNe a.Player g)) (aa (vB (sNe a.Player g)) (af ?_)))))))))))))))
   obtain ⟨B,b,q⟩:=bind_some q
   refine lu (β:=Nm) (λ(n:Nm)=>([(1,(vS g)),(2,(vB h)),(7,(gV n 2 B)),(10,(vL Beat.enc f)),(11,(vI (f.length:Int))),(12,(vI (j:Int)))]:SL_)) (λ(n:Nm)=>([(n,gB 2 Beat_.enc B),(O,some (.cells 3 (Beat.v a)))]:Hp)) (λ_=>True) ?_ ?_
   ·rcases aj b with⟨t,b⟩|⟨t,b⟩
    ·refine ay rfl t (av ?_)
     obtain rfl:=ae b
     exact aW c trivial rfl (aG rfl)
    ·refine ax rfl t (ai (aa (vB h) (aa (vB h) (af ?_))))
     rcases aj b with⟨u,b⟩|⟨u,b⟩
     ·refine ay rfl u (au (aa (gV c 2 e) (aK GI rfl 1 rfl wz (aI 0 1 il ft sz3 ag3 rfl rfl (vI a.At) rfl wz (aK Ha rfl 2 rfl wz (aI 0 1 il ft sz3 ag3 rfl rfl (vI a.Clock) rfl wz (aL (.d (.agg (Beat_.enc (⟨a.At,a.Clock⟩:Beat_)))) wz (by kernel_rfl) (eu (([(⟨a.At,a.Clock⟩:Beat_)]:List Beat_).map Beat_.enc) De ez132 rfl rfl rfl rfl rfl wz ?_))))))))
      obtain ⟨G,K,b⟩:=bind_some b
      refine jF 0 il ft (i:=0) Pk Pk JN z168 rfl (by decide) by168 (by decide) (λ_=>rfl) rfl rfl rfl K wz (λC=>aa (gV C 2 G) (af ?_))
      obtain rfl:=ae b
      exact aW C trivial rfl (aG rfl)
     ·refine ax rfl u (au (aa (gV c 2 e) (aK Ha rfl 2 rfl wz (aI 0 1 il ft sz3 ag3 rfl rfl (vI a.Clock) rfl wz (aK GI rfl 1 rfl wz (aI 0 1 il ft sz3 ag3 rfl rfl (vI a.At) rfl wz (aL (.d (.agg (Beat_.enc (⟨a.Clock,a.At⟩:Beat_)))) wz (by kernel_rfl) (eu (([(⟨a.Clock,a.At⟩:Beat_)]:List Beat_).map Beat_.enc) De ez132 rfl rfl rfl rfl rfl wz ?_))))))))
      obtain ⟨H,L,b⟩:=bind_some b
      refine jF 0 il ft (i:=0) Pk Pk JN z168 rfl (by decide) by168 (by decide) (λ_=>rfl) rfl rfl rfl L wz (λE=>aa (gV E 2 H) (af ?_))
      obtain rfl:=ae b
      exact aW E trivial rfl (aG rfl)
   ·rintro n _ Q F y z
    refine aO _ y z (au (dH (bz l I) wz rfl (aa (vI ((j+1:Nat):Int)) (af ?_))))
    obtain rfl:=ae q
    exact aV (j+1,A,B,n) ⟨m,aX l⟩ (ls_ _) rfl (aG rfl)
 ·rintro ⟨e,c⟩ J Q F y z
  subst J
  refine aO _ y z (ai (aa (gV c 2 e) (aa (gV c 2 e) (af (iq 0 rfl (cO 6 0 rfl rfl (cO 7 0 rfl rfl (cO 40 0 rfl rfl ?_))))))))
  obtain rfl:=ae o
  exact aC (aN [(vL Beat_.enc e)] ⟨rfl,trivial⟩)
theorem zM {f:(List Beat_)} {b:Int} {r:Int×Int} (a:jO f b=some r) :
  FnM Tryz.prog 69 [(vL Beat_.enc f),(vI b)] [] (.tup [(vI r.1),(vI r.2)]) []:=by
 refine FnM.of_wH ⟨Tryz.prog,108,[],[]⟩ rfl Tryz.func69 rfl rfl (lb_ rfl) (by kernel_rfl) ?_
 unfold jO at a
 refine ai (aa (vI 0) (aa (vI 0) (af (ak (ai (aa (vL Beat_.enc f) (bA TI rfl wz (aa (vB ((f.length:Int)==0)) (af ?_)))))))))
 rcases aj a with⟨B,a⟩|⟨B,a⟩
 ·refine ay rfl B (ai (aa (vI 0) (aa (vI 8) (af ?_))))
  obtain rfl:=ae a
  exact aC (aN [(vI 0),(vI 8)] ⟨rfl,⟨rfl,trivial⟩⟩)
 ·refine ax rfl B (av (ai (aa (vI 0) (af (ak ?_)))))
  obtain ⟨Á,H,a⟩:=bind_some a
  obtain ⟨À,H⟩:=bv H
  refine cB (λ(c:Int)=>[(0,(vL Beat_.enc f)),(1,(vI b)),(6,(vI c))]) (λ(c:Int)=>[]) (λ(v:Nat)=>(λ(c:Int)=>[(0,(vL Beat_.enc f)),(1,(vI b)),(6,(vI c))])) (λs=>iG f b s) Á À 0 H rfl (aG rfl) ?_ ?_
  ·rintro ⟨v,c⟩ n
   dsimp only at n
   cases v with
   | zero=>cases n
   | succ v =>
    obtain ⟨Ç,k,n⟩:=bind_some n
    unfold iG at k
    refine ak (ak ?_)
    obtain ⟨Å,m,k⟩:=bind_some k
    refine aR [(0,(vL Beat_.enc f)),(1,(vI b)),(6,(vI c)),(25,(vB Å))] [] ?_ ?_
    ·refine au (aa (vI c) (aa (vL Beat_.enc f) (bA TI rfl wz (aa (vB (decide (c<(f.length:Int)))) ?_))))
     rcases aj m with⟨w,m⟩|⟨w,m⟩
     ·refine aH rfl w wz (aL (vL Beat_.enc f) wa rfl (aL (vI c) wa rfl ?_))
      obtain ⟨u,Q,m⟩:=bind_some m
      refine dC De rfl rfl Q rfl wa (qh xC rfl [.int .i64 u.f_from,.int .i64 u.f_to] rfl rfl wa (bE sz3 ag3 rfl (vI u.f_from) rfl wa (aL (vI b) wa rfl (aL (vB (decide (u.f_from<=b))) wa rfl (aa (vB (decide (u.f_from<=b))) (af ?_))))))
      obtain rfl:=ae m
      exact cu
     ·refine aH rfl w wz (ah (ah (ah (ah (ah (ah (ah (aa (vB false) (af ?_)))))))))
      obtain rfl:=ae m
      exact cu
    ·rintro ⟨⟩ _ L I q t
     refine aO _ q t ?_
     rcases aj k with⟨x,k⟩|⟨x,k⟩
     ·refine ay rfl x (av (aM (au (aa (vI c) (aa (vI (w64 (c+1))) (aa (vI (w64 (c+1))) (af ?_)))))))
      obtain rfl:=ae k
      exact aV (v,(w64 (c+1))) n (ls_ _) rfl (aG rfl)
     ·refine ax rfl x (aU ?_)
      obtain rfl:=ae k
      obtain rfl:=ae n
      exact aW (c) rfl rfl (aG rfl)
  ·rintro c M L I q t
   subst M
   refine aO _ q t (ai (aa (vI 0) (af (ak (aM (ai (aa (vI c) (aa (vB (c==0)) (aa (vB (c==0)) (af ?_))))))))))
   rcases aj a with⟨y,a⟩|⟨y,a⟩
   ·refine ay rfl y (bg (aa (vL Beat_.enc f) ?_))
    obtain ⟨l,R,a⟩:=bind_some a
    refine dC De rfl rfl R rfl wz (qh zh rfl [.int .i64 l.f_to] rfl rfl wz (bE sz3 ag3 rfl (vI l.f_to) rfl wz (aa (vL Beat_.enc f) ?_)))
    obtain ⟨h,T,a⟩:=bind_some a
    refine dC De rfl rfl T rfl wz (qh xC rfl [.int .i64 h.f_from,.int .i64 h.f_to] rfl rfl wz (bE sz3 ag3 rfl (vI h.f_from) rfl wz (aa (vI b) (aa (vI (w64 (h.f_from-b))) (aa (vI (w64 (l.f_to-(w64 (h.f_from-b))))) (aa (vI (w64 (l.f_to-(w64 (h.f_from-b))))) (af (ak (ai (aa (vI (w64 (l.f_to-(w64 (h.f_from-b))))) ?_))))))))))
    obtain ⟨Â,N,a⟩:=bind_some a
    refine aB (iH N) rfl KV rfl rfl rfl rfl wz (aa (vB (!Â)) (af ?_))
    rcases aj a with⟨z,a⟩|⟨z,a⟩
    ·refine ay rfl z (ai (aa (vI 0) (aa (vI 11) (af ?_))))
     obtain rfl:=ae a
     exact aC (aN [(vI 0),(vI 11)] ⟨rfl,⟨rfl,trivial⟩⟩)
    ·refine ax rfl z (av (ai (aa (vI (w64 (l.f_to-(w64 (h.f_from-b))))) (aa (vI (w64 (l.f_to-(w64 (h.f_from-b))))) (aa (vI 0) (af ?_))))))
     obtain rfl:=ae a
     exact aC (aN [(vI (w64 (l.f_to-(w64 (h.f_from-b))))),(vI 0)] ⟨rfl,⟨rfl,trivial⟩⟩)
   ·refine ax rfl y (ai (aa (vI c) (aa (vL Beat_.enc f) (bA TI rfl wz (aa (vB (c==(f.length:Int))) (aa (vB (c==(f.length:Int))) (af ?_)))))))
    rcases aj a with⟨A,a⟩|⟨A,a⟩
    ·refine ay rfl A (bg (aa (vL Beat_.enc f) (aa (vI c) (aa (vI (w64 (c-1))) ?_))))
     obtain ⟨i,U,a⟩:=bind_some a
     refine dC De rfl rfl U rfl wz (qh zh rfl [.int .i64 i.f_to] rfl rfl wz (bE sz3 ag3 rfl (vI i.f_to) rfl wz (aa (vI b) (aa (vI (w64 (i.f_to+b))) (aa (vL Beat_.enc f) (aa (vI c) (aa (vI (w64 (c-1))) ?_)))))))
     obtain ⟨j,W,a⟩:=bind_some a
     refine dC De rfl rfl W rfl wz (qh xC rfl [.int .i64 j.f_from,.int .i64 j.f_to] rfl rfl wz (bE sz3 ag3 rfl (vI j.f_from) rfl wz (aa (vI (w64 ((w64 (i.f_to+b))-j.f_from))) (aa (vI (w64 ((w64 (i.f_to+b))-j.f_from))) (af (ak (ai (aa (vI (w64 ((w64 (i.f_to+b))-j.f_from))) ?_))))))))
     obtain ⟨Ã,O,a⟩:=bind_some a
     refine aB (iH O) rfl KV rfl rfl rfl rfl wz (aa (vB (!Ã)) (af ?_))
     rcases aj a with⟨C,a⟩|⟨C,a⟩
     ·refine ay rfl C (ai (aa (vI 0) (aa (vI 11) (af (aO (H0:=([]:Hp)) ([(4,(vI 0)),(5,(vI 11))]:SL_) (by kernel_rfl) (AC (by kernel_rfl)) ?_)))))
      obtain rfl:=ae a
      exact aC (aN [(vI 0),(vI 11)] ⟨rfl,⟨rfl,trivial⟩⟩)
     ·refine ax rfl C (av (ai (aa (vI (w64 ((w64 (i.f_to+b))-j.f_from))) (aa (vI (w64 ((w64 (i.f_to+b))-j.f_from))) (aa (vI 0) (af (aO (H0:=([]:Hp)) ([(4,(vI (w64 ((w64 (i.f_to+b))-j.f_from)))),(5,(vI 0))]:SL_) (by kernel_rfl) (AC (by kernel_rfl)) ?_)))))))
      obtain rfl:=ae a
      exact aC (aN [(vI (w64 ((w64 (i.f_to+b))-j.f_from))),(vI 0)] ⟨rfl,⟨rfl,trivial⟩⟩)
    ·refine ax rfl A (ak (bg (aa (vL Beat_.enc f) (aa (vI c) (aa (vI (w64 (c-1))) ?_)))))
     obtain ⟨e,X,a⟩:=bind_some a
     refine dC De rfl rfl X rfl wz (bE JN ag168 rfl (.d (.agg (Beat_.enc e))) rfl wz (aa (vL Beat_.enc f) (aa (vI c) ?_)))
     obtain ⟨g,Y,a⟩:=bind_some a
     refine dC De rfl rfl Y rfl wz (bE JN ag168 rfl (.d (.agg (Beat_.enc g))) rfl wz (dA 9 (.inr (by kernel_rfl)) z168 rfl wz (λJ=>dA 10 (.inr (by kernel_rfl)) z168 rfl wz (λK=>jw 11 (.inr (by kernel_rfl)) (λ_ _ ag=>⟨.inr (.inr (by kernel_rfl)),⟨.inr (.inr (by kernel_rfl)),trivial⟩⟩) 0 JN rfl rfl [(vI e.f_from),(vI e.f_to)] rfl wz (jw 12 (.inr (by kernel_rfl)) (λ_ _ ag=>⟨.inr (.inr (by kernel_rfl)),⟨.inr (.inr (by kernel_rfl)),⟨.inr (.inr (by kernel_rfl)),trivial⟩⟩⟩) 1 JN rfl rfl [(vI g.f_from),(vI g.f_to)] rfl wz (af (ak (ak ?_))))))))
     obtain ⟨Æ,p,a⟩:=bind_some a
     refine aR [(1,(vI b)),(8,(.ref J 0 0)),(9,(.ref K 0 0)),(50,(vB Æ))] [(J,some (.cells 2 [(vI e.f_from),(vI e.f_to)])),(K,some (.cells 2 [(vI g.f_from),(vI g.f_to)]))] ?_ ?_
     ·refine au (aK xC rfl 0 rfl wz (aI 0 1 il ft sz3 ag3 rfl rfl (vI g.f_from) rfl wz (aK xC rfl 0 rfl wz (aI 0 0 il ft sz3 ag3 rfl rfl (vI e.f_from) rfl wz (aa (vI (w64 (g.f_from-e.f_from))) (aa (vB (decide ((w64 (g.f_from-e.f_from))>2592000000))) ?_))))))
      rcases aj p with⟨E,p⟩|⟨E,p⟩
      ·refine aH rfl E wz (ah (ah (ah (ah (ah (ah (aa (vB true) (af ?_))))))))
       obtain rfl:=ae p
       exact cu
      ·refine aH rfl E wz (aK zh rfl 1 rfl wa (aI 0 1 il ft sz3 ag3 rfl rfl (vI g.f_to) rfl wa (aK zh rfl 1 rfl wa (aI 0 0 il ft sz3 ag3 rfl rfl (vI e.f_to) rfl wa (aL (vI (w64 (g.f_to-e.f_to))) wa rfl (aL (vB (decide ((w64 (g.f_to-e.f_to))>2592000000))) wa rfl (aa (vB (decide ((w64 (g.f_to-e.f_to))>2592000000))) (af ?_))))))))
       obtain rfl:=ae p
       exact cu
     ·rintro ⟨⟩ _ L I q t
      refine aO _ q t ?_
      rcases aj a with⟨F,a⟩|⟨F,a⟩
      ·refine ay rfl F (ai (aa (vI 0) (aa (vI 2) (af ?_))))
       obtain rfl:=ae a
       exact aC (aN [(vI 0),(vI 2)] ⟨rfl,⟨rfl,trivial⟩⟩)
      ·refine ax rfl F (av (bg (aK zh rfl 1 rfl wz (aI 1 0 (.inr (by kernel_rfl)) (λ_ _ ag=>trivial) sz3 ag3 rfl rfl (vI e.f_to) rfl wz (aa (vI b) (aK xC rfl 0 rfl wz (aI 4 0 (.inr (by kernel_rfl)) (λ_ _ ag=>⟨.inl ⟨rfl,rfl⟩,trivial⟩) sz3 ag3 rfl rfl (vI e.f_from) rfl wz (aa (vI (w64 (b-e.f_from))) (aK zh rfl 1 rfl wz (aI 7 1 (.inr (by kernel_rfl)) (λ_ _ ag=>⟨.inl ⟨rfl,rfl⟩,⟨.inl ⟨rfl,rfl⟩,trivial⟩⟩) sz3 ag3 rfl rfl (vI g.f_to) rfl wz (aK zh rfl 1 rfl wz (aI 9 0 (.inr (by kernel_rfl)) (λ_ _ ag=>⟨.inl ⟨rfl,rfl⟩,⟨.inl ⟨rfl,rfl⟩,⟨.inl ⟨rfl,rfl⟩,trivial⟩⟩⟩) sz3 ag3 rfl rfl (vI e.f_to) rfl wz (aa (vI (w64 (g.f_to-e.f_to))) (aa (vI (w64 ((w64 (b-e.f_from))*(w64 (g.f_to-e.f_to))))) (aK xC rfl 0 rfl wz (aI 13 1 (.inr (by kernel_rfl)) (λ_ _ ag=>⟨.inl ⟨rfl,rfl⟩,⟨.inl ⟨rfl,rfl⟩,⟨.inl ⟨rfl,rfl⟩,⟨.inl ⟨rfl,rfl⟩,trivial⟩⟩⟩⟩) sz3 ag3 rfl rfl (vI g.f_from) rfl wz (aK xC rfl 0 rfl wz (aI 15 0 (.inr (by kernel_rfl)) (λ_ _ ag=>⟨.inl ⟨rfl,rfl⟩,⟨.inl ⟨rfl,rfl⟩,⟨.inl ⟨rfl,rfl⟩,⟨.inl ⟨rfl,rfl⟩,⟨.inl ⟨rfl,rfl⟩,trivial⟩⟩⟩⟩⟩) sz3 ag3 rfl rfl (vI e.f_from) rfl wz (aa (vI (w64 (g.f_from-e.f_from))) ?_)))))))))))))))))))
       obtain ⟨o,Z,a⟩:=bind_some a
       refine PX rfl rfl Z wz (aa (vI (w64 (e.f_to+o))) (aa (vI (w64 (e.f_to+o))) (af (ak (ai (aa (vI (w64 (e.f_to+o))) ?_))))))
       obtain ⟨Ä,P,a⟩:=bind_some a
       refine aB (iH P) rfl KV rfl rfl rfl rfl wz (aa (vB (!Ä)) (af ?_))
       rcases aj a with⟨G,a⟩|⟨G,a⟩
       ·refine ay rfl G (ai (aa (vI 0) (aa (vI 11) (af ?_))))
        obtain rfl:=ae a
        exact aC (aN [(vI 0),(vI 11)] ⟨rfl,⟨rfl,trivial⟩⟩)
       ·refine ax rfl G (av (ai (aa (vI (w64 (e.f_to+o))) (aa (vI (w64 (e.f_to+o))) (aa (vI 0) (af ?_))))))
        obtain rfl:=ae a
        exact aC (aN [(vI (w64 (e.f_to+o))),(vI 0)] ⟨rfl,⟨rfl,trivial⟩⟩)
theorem BK {a:Placed} {b:Placed} {r:Int} (c:mG a b=some r) :
  FnM Tryz.prog 71 [(.d (.agg (Placed.enc a))),(.d (.agg (Placed.enc b)))] [] (vI r) []:=by
 refine FnM.of_wH ⟨Tryz.prog,10,[],[]⟩ rfl Tryz.func71 rfl rfl (lb_ rfl) (by kernel_rfl) ?_
 unfold mG at c
 refine ai (ib 0 (.inl rfl) [(vI a.f_i),(vI a.f_at)] rfl rfl wz (λg=>ib 0 (.inl rfl) [(vI b.f_i),(vI b.f_at)] rfl rfl wz (λh=>aa (vI 0) (af (ai (aK LP rfl 1 rfl wz (aI 0 0 il ft sz3 ag3 rfl rfl (vI a.f_at) rfl wz (aK LP rfl 1 rfl wz (aI 0 1 il ft sz3 ag3 rfl rfl (vI b.f_at) rfl wz ?_)))))))))
 obtain ⟨e,f,c⟩:=bind_some c
 refine aB (jL f) rfl Ri rfl rfl rfl rfl wz (aa (vI e) (af ?_))
 obtain rfl:=ae c
 exact aC (aN [(vI e)] ⟨rfl,trivial⟩)
theorem iC {k:(List Placed)} {f:Int} {h:Int} {r:(List Placed)} (p:dn k f h=some r) :
  FnM Tryz.prog 154 [(dV (aA 0) 2 k),(vI f),(vI h),(.fn 71 [])] (([]:List Box)++gI 2 Placed.enc k) (.tup []) (([]:List Box).map some++gT k (gB 2 Placed.enc r)):=by
 refine FnM.of_wHv ⟨Tryz.prog,53,[],[]⟩ rfl Tryz.func154 rfl rfl (lb_ rfl) (by kernel_rfl) ?_
 unfold dn at p
 refine ai (aa (vI f) (aa (vI (w64 (f+1))) (aa (vI (w64 (f+1))) (af ?_))))
 obtain ⟨Z,y,p⟩:=bind_some p
 obtain ⟨Y,y⟩:=bv y
 refine cB (λ(c:(List Placed)×Int)=>[]) (λ(c:(List Placed)×Int)=>[((aA 0),gB 2 Placed.enc c.1)]) (λ(u:Nat)=>(λ(c:(List Placed)×Int)=>[(0,(dV (aA 0) 2 c.1)),(1,(vI f)),(2,(vI h)),(3,(.fn 71 [])),(8,(vI c.2))])) (λs=>dL h f s) Z Y (k,(w64 (f+1))) y rfl (aG rfl) ?_ ?_
 ·rintro ⟨u,c⟩ l
  dsimp only at l
  cases u with
  | zero=>cases l
  | succ u =>
   obtain ⟨L,j,l⟩:=bind_some l
   unfold dL at j
   refine ak (ai (aa (vI c.2) (aa (vI h) (aa (vB (decide (c.2<h))) (af ?_)))))
   rcases aj j with⟨v,j⟩|⟨v,j⟩
   ·refine ay rfl v (av (ak (aM (ai (aa (vI c.2) (aa (vI c.2) (af ?_)))))))
    obtain ⟨À,z,j⟩:=bind_some j
    obtain ⟨X,z⟩:=bv z
    refine cB (λ(a:(List Placed)×Int)=>[(0,(dV (aA 0) 2 a.1)),(1,(vI f)),(2,(vI h)),(3,(.fn 71 [])),(8,(vI c.2))]) (λ(a:(List Placed)×Int)=>[((aA 0),gB 2 Placed.enc a.1)]) (λ(t:Nat)=>(λ(a:(List Placed)×Int)=>[(0,(dV (aA 0) 2 a.1)),(1,(vI f)),(2,(vI h)),(3,(.fn 71 [])),(8,(vI c.2)),(9,(vI a.2))])) (λs=>dM f s) À X (c.1,c.2) z rfl (aG rfl) ?_ ?_
    ·rintro ⟨t,a⟩ m
     dsimp only at m
     cases t with
     | zero=>cases m
     | succ t =>
      obtain ⟨L,b,m⟩:=bind_some m
      unfold dM at b
      refine ak (ak ?_)
      obtain ⟨Á,e,b⟩:=bind_some b
      refine aR [(0,(dV (aA 0) 2 a.1)),(1,(vI f)),(2,(vI h)),(3,(.fn 71 [])),(8,(vI c.2)),(9,(vI a.2)),(34,(vB Á))] [((aA 0),gB 2 Placed.enc a.1)] ?_ ?_
      ·refine bg (aa (vI a.2) (aa (vI f) (aa (vB (decide (a.2>f))) ?_)))
       rcases aj e with⟨w,e⟩|⟨w,e⟩
       ·refine aH rfl w wz (aL (.fn 71 []) wa rfl (aL (dV (aA 0) 2 a.1) wa rfl (aL (vI a.2) wa rfl ?_)))
        obtain ⟨_,C,e⟩:=bind_some e
        refine je KZ rfl rfl (ik C) (dN C) wa ?_
        obtain ⟨M,P,e⟩:=bind_some e
        refine kw 8 0 (.inr (by kernel_rfl)) (λ_ _ ag=>trivial) Jq Ue rfl rfl P (.d (.agg (Placed.enc M))) rfl wa (aL (dV (aA 0) 2 a.1) wa rfl (aL (vI a.2) wa rfl (aL (vI (w64 (a.2-1))) wa rfl ?_)))
        obtain ⟨_,E,e⟩:=bind_some e
        refine je KZ rfl rfl (ik E) (dN E) wa ?_
        obtain ⟨N,Q,e⟩:=bind_some e
        refine kw 13 0 (.inr (by kernel_rfl)) (λ_ _ ag=>⟨.inl ⟨rfl,rfl⟩,trivial⟩) Jq Ue rfl rfl Q (.d (.agg (Placed.enc N))) rfl wa ?_
        obtain ⟨J,O,e⟩:=bind_some e
        refine aB (BK O) rfl hb71 rfl rfl rfl rfl wa (aL (vB (decide (J<0))) wa rfl (aa (vB (decide (J<0))) (af ?_)))
        obtain rfl:=ae e
        exact cu
       ·refine aH rfl w wz (ah (ah (ah (ah (ah (ah (ah (ah (ah (ah (ah (ah (aa (vB false) (af ?_))))))))))))))
        obtain rfl:=ae e
        exact cu
      ·rintro ⟨⟩ _ K B q n
       refine aO _ q n ?_
       rcases aj b with⟨x,b⟩|⟨x,b⟩
       ·refine ay rfl x (av (ak (aM (bg (aa (dV (aA 0) 2 a.1) (aa (vI a.2) (aa (dV (aA 0) 2 a.1) (aa (vI a.2) (aa (vI (w64 (a.2-1))) (aa (dV (aA 0) 2 a.1) (aa (vI a.2) (aa (vI (w64 (a.2-1))) ?_))))))))))))
        obtain ⟨_,F,b⟩:=bind_some b
        refine je KZ rfl rfl (ik F) (dN F) wz ?_
        obtain ⟨g,R,b⟩:=bind_some b
        refine kw 9 0 (.inr (by kernel_rfl)) (λ_ _ ag=>trivial) Jq Ue rfl rfl R (.d (.agg (Placed.enc g))) rfl wz (aa (dV (aA 0) 2 a.1) (aa (vI a.2) ?_))
        obtain ⟨_,G,b⟩:=bind_some b
        refine je KZ rfl rfl (ik G) (dN G) wz ?_
        obtain ⟨i,T,b⟩:=bind_some b
        refine kw 13 0 (.inr (by kernel_rfl)) (λ_ _ ag=>⟨.inl ⟨rfl,rfl⟩,trivial⟩) Jq Ue rfl rfl T (.d (.agg (Placed.enc i))) rfl wz ?_
        obtain ⟨_,H,b⟩:=bind_some b
        refine je KZ rfl rfl (ik H) (dN H) wz ?_
        obtain ⟨Â,U,b⟩:=bind_some b
        refine sw 15 (.inr (by kernel_rfl)) (λ_ _ ag=>⟨.inr (.inr (by kernel_rfl)),⟨.inr (.inr (by kernel_rfl)),trivial⟩⟩) 0 Jq rfl rfl U g rfl wz (bT (v':=(dV (aA 0) 2 (a.1.set (0+(a.2).toNat) g))) 0 rfl (bC (by simp)) (bT (v':=(dV (aA 0) 2 (a.1.set (0+(a.2).toNat) g))) 37 rfl (bC (by simp)) (bT (v':=(dV (aA 0) 2 (a.1.set (0+(a.2).toNat) g))) 39 rfl (bC (by simp)) (bT (v':=(dV (aA 0) 2 (a.1.set (0+(a.2).toNat) g))) 42 rfl (bC (by simp)) (bT (v':=(dV (aA 0) 2 (a.1.set (0+(a.2).toNat) g))) 47 rfl (bC (by simp)) ?_)))))
        obtain ⟨_,I,b⟩:=bind_some b
        refine je KZ rfl rfl (ik I) (dN I) wz ?_
        obtain ⟨Ã,W,b⟩:=bind_some b
        refine sw 17 (.inr (by kernel_rfl)) (λ_ _ ag=>⟨.inr (.inr (by kernel_rfl)),⟨.inr (.inr (by kernel_rfl)),⟨.inr (.inr (by kernel_rfl)),trivial⟩⟩⟩) 0 Jq rfl rfl W i rfl wz (bT (v':=(dV (aA 0) 2 ((a.1.set (0+(a.2).toNat) g).set (0+((w64 (a.2-1))).toNat) i))) 0 rfl (bC (by simp)) (bT (v':=(dV (aA 0) 2 ((a.1.set (0+(a.2).toNat) g).set (0+((w64 (a.2-1))).toNat) i))) 37 rfl (bC (by simp)) (bT (v':=(dV (aA 0) 2 ((a.1.set (0+(a.2).toNat) g).set (0+((w64 (a.2-1))).toNat) i))) 39 rfl (bC (by simp)) (bT (v':=(dV (aA 0) 2 ((a.1.set (0+(a.2).toNat) g).set (0+((w64 (a.2-1))).toNat) i))) 42 rfl (bC (by simp)) (bT (v':=(dV (aA 0) 2 ((a.1.set (0+(a.2).toNat) g).set (0+((w64 (a.2-1))).toNat) i))) 47 rfl (bC (by simp)) (af (au (aa (vI a.2) (aa (vI (w64 (a.2-1))) (aa (vI (w64 (a.2-1))) (af ?_)))))))))))
        obtain rfl:=ae b
        exact aV (t,(((a.1.set (0+(a.2).toNat) g).set (0+((w64 (a.2-1))).toNat) i),(w64 (a.2-1)))) m (ls_ _) rfl (aG rfl)
       ·refine ax rfl x (aU ?_)
        obtain rfl:=ae b
        obtain rfl:=ae m
        exact aW ((a.1,a.2)) rfl rfl (aG rfl)
    ·rintro a A K B q n
     subst A
     refine aO _ q n (au (aa (vI c.2) (aa (vI (w64 (c.2+1))) (aa (vI (w64 (c.2+1))) (af ?_)))))
     obtain rfl:=ae j
     exact aV (u,(a.1,(w64 (c.2+1)))) l (ls_ _) rfl (aG rfl)
   ·refine ax rfl v (aU ?_)
    obtain rfl:=ae j
    obtain rfl:=ae l
    exact aW ((c.1,c.2)) rfl rfl (aG rfl)
 ·rintro c A K B q n
  subst A
  show qI _ _ _ _ _ _ _ _
  obtain rfl:=ae p
  exact qz (H0:=([((aA 0),gB 2 Placed.enc c.1)]:Hp)) (sl':=envS []) n (oq (bs:=([]:List Box)) (os:=([]:List Box)) (xs:=k) (o:=gB 2 Placed.enc c.1) (.inl rfl) [] trivial rfl rfl rfl rfl rfl (by kernel_rfl) jm rfl)
end Go.Proofs.YtnfojnnfidnikaeGreatDoor.Law

