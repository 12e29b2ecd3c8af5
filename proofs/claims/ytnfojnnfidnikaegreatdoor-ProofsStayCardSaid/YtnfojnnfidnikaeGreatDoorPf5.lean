/-
 The machine computes these plain functions (written by a program of ours).
-/
import Derived.Test.YtnfojnnfidnikaeGreatDoorFacts
import Derived.Test.YtnfojnnfidnikaeGreatDoorDefs
import Derived.Test.YtnfojnnfidnikaeGreatDoorPf4
import Derived.Test.YtnfojnnfidnikaeGreatDoorShelf
open Go Go.Eng Go.Proofs
namespace Go.Proofs.YtnfojnnfidnikaeGreatDoor.Law
set_option maxRecDepth 100000
set_option linter.unusedVariables false
set_option maxHeartbeats 1000000
theorem sK {l:(List Int)} {u:Int} {a:Int} {n:Bool} {k:Bool} {r:(List Int)×ByteArray} (e:fF l u a n k=some r) :
  FnM Tryz.prog 167 [(vL (eK .u8) l),(.d (.int .u64 u)),(vI a),(vB n),(vB k)] [] (.tup [(vL (eK .u8) r.1),(vS r.2)]) []:=by
 refine FnM.of_wH ⟨Tryz.prog,102,[],[]⟩ rfl Tryz.func167 rfl rfl (lb_ rfl) (by kernel_rfl) ?_
 unfold fF at e
 refine ai (aa .nil (aa (vS (⟨#[]⟩:ByteArray)) (af (ak (ak ?_)))))
 obtain ⟨Ü,p,e⟩:=bind_some e
 refine aR [(0,(vL (eK .u8) l)),(1,(.d (.int .u64 u))),(2,(vI a)),(3,(vB n)),(4,(vB k)),(10,.nil),(11,(vS (⟨#[]⟩:ByteArray))),(28,(vB Ü))] [] ?_ ?_
 ·refine au (aa (vI a) (aa (vB (decide (a<2))) ?_))
  rcases aj p with⟨N,p⟩|⟨N,p⟩
  ·refine aH rfl N wz (ah (ah (aa (vB true) (aa (vB true) (ah (ah (aa (vB true) (af ?_))))))))
   obtain rfl:=ae p
   exact cu
  ·refine aH rfl N wz (aL (vI a) wa rfl (aL (vB (a==10)) wa rfl (aa (vB (a==10)) ?_)))
   rcases aj p with⟨O,p⟩|⟨O,p⟩
   ·refine aH rfl O wz (ah (ah (aa (vB true) (af ?_))))
    obtain rfl:=ae p
    exact cu
   ·refine aH rfl O wz (aL (vI a) wa rfl (aL (vB (decide (a>36))) wa rfl (aa (vB (decide (a>36))) (af ?_))))
    obtain rfl:=ae p
    exact cu
 ·rintro ⟨⟩ _ y v i j
  refine aO _ i j ?_
  obtain ⟨ã,A,e⟩:=bind_some e
  refine aR [(0,(vL (eK .u8) l)),(1,(.d (.int .u64 u))),(2,(vI a)),(3,(vB n)),(4,(vB k)),(10,.nil),(11,(vS (⟨#[]⟩:ByteArray)))] [] ?_ ?_
  ·rcases aj A with⟨G,A⟩|⟨G,A⟩
   ·refine ay rfl G (au ?_)
    cases A
   ·refine ax rfl G (av ?_)
    obtain rfl:=ae A
    exact cu
  ·rintro ⟨⟩ _ y v i j
   refine aO _ i j (ai (MR (List.replicate 65 (0:Int)) 0 (.inl rfl) z267 (by kernel_rfl) (by kernel_rfl) E9 wz (λm=>af (ai (aa (vI 65) (af (ak (ai (aa (vB n) (af ?_))))))))))
   obtain ⟨T,B,e⟩:=bind_some e
   refine aR [(0,(vL (eK .u8) l)),(1,(.d (.int .u64 T))),(2,(vI a)),(3,(vB n)),(4,(vB k)),(10,.nil),(11,(vS (⟨#[]⟩:ByteArray))),(12,(.ref m 0 0)),(13,(vI 65))] [(m,some (bV 1 (eK .u8) (List.replicate 65 (0:Int))))] ?_ ?_
   ·rcases aj B with⟨H,B⟩|⟨H,B⟩
    ·refine ay rfl H (au (aa (.d (.int .u64 u)) (aa (.d (.int .u64 (IntKind.u64.wrap (0-u)))) (aa (.d (.int .u64 (IntKind.u64.wrap (0-u)))) (af ?_)))))
     obtain rfl:=ae B
     exact cu
    ·refine ax rfl H (av ?_)
     obtain rfl:=ae B
     exact cu
   ·rintro ⟨⟩ _ y v i j
    refine aO _ i j (ak (ai (aa (vI a) ?_)))
    obtain ⟨â,É,e⟩:=bind_some e
    refine aB (sj É) rfl hb194 rfl rfl rfl rfl wz (af ?_)
    obtain ⟨z,f,e⟩:=bind_some e
    refine aR [(0,(vL (eK .u8) l)),(3,(vB n)),(4,(vB k)),(10,.nil),(11,(vS (⟨#[]⟩:ByteArray))),(12,(.ref m 0 0)),(13,(vI z.2))] [(m,some (bV 1 (eK .u8) z.1))] ?_ ?_
    ·rcases aj f with⟨I,f⟩|⟨I,f⟩
     ·refine ay rfl I (ai (aa (vI a) (rY un3 Io rfl wz ?_)))
      obtain ⟨F,Ê,f⟩:=bind_some f
      refine aB (wm Ê) rfl hb195 rfl rfl rfl rfl wz (rY un3 Io rfl wz (aa (.d (.int .u64 (IntKind.u64.wrap F))) (af (ai (aa (vI a) (rY un3 Kg rfl wz (aa (.d (.int .u64 (IntKind.u64.wrap a))) (af (ai (aa (vI a) (rY un3 Io rfl wz (aa (.d (.int .u64 (IntKind.u64.wrap ((IntKind.u64.wrap a)-1)))) (aa (.d (.int .u64 (IntKind.u64.wrap ((IntKind.u64.wrap a)-1)))) (af (ak ?_)))))))))))))))
      obtain ⟨Ú,P,f⟩:=bind_some f
      obtain ⟨Ø,P⟩:=bv P
      refine cB (λ(b:(List Int)×Int×Int)=>[(0,(vL (eK .u8) l)),(1,(.d (.int .u64 b.2.1))),(3,(vB n)),(4,(vB k)),(10,.nil),(11,(vS (⟨#[]⟩:ByteArray))),(12,(.ref m 0 0)),(13,(vI b.2.2))]) (λ(b:(List Int)×Int×Int)=>[(m,some (bV 1 (eK .u8) b.1))]) (λ(C:Nat)=>(λ(b:(List Int)×Int×Int)=>[(0,(vL (eK .u8) l)),(1,(.d (.int .u64 b.2.1))),(3,(vB n)),(4,(vB k)),(10,.nil),(11,(vS (⟨#[]⟩:ByteArray))),(12,(.ref m 0 0)),(13,(vI b.2.2)),(14,(.d (.int .u64 (IntKind.u64.wrap F)))),(15,(.d (.int .u64 (IntKind.u64.wrap a)))),(16,(.d (.int .u64 (IntKind.u64.wrap ((IntKind.u64.wrap a)-1)))))])) (λs=>bP a F s) Ú Ø ((List.replicate 65 (0:Int)),T,65) P rfl (aG rfl) ?_ ?_
      ·rintro ⟨C,b⟩ w
       dsimp only at w
       cases C with
       | zero=>cases w
       | succ C =>
        obtain ⟨Æ,g,w⟩:=bind_some w
        unfold bP at g
        refine ak (ai (aa (.d (.int .u64 b.2.1)) (aa (.d (.int .u64 (IntKind.u64.wrap a))) (aa (vB (decide (b.2.1>=(IntKind.u64.wrap a)))) (af ?_)))))
        rcases aj g with⟨J,g⟩|⟨J,g⟩
        ·refine ay rfl J (av (aM (ai (aa (vI b.2.2) (aa (vI (w64 (b.2.2-1))) (aa (vI (w64 (b.2.2-1))) (af (ai (aa (vI (w64 (b.2.2-1))) (aa (.d (.int .u64 b.2.1)) (aa (.d (.int .u64 (IntKind.u64.wrap ((IntKind.u64.wrap a)-1)))) (aa (.d (.int .u64 (EF .u64 b.2.1 (IntKind.u64.wrap ((IntKind.u64.wrap a)-1))))) ?_))))))))))))
         obtain ⟨U,Ì,g⟩:=bind_some g
         refine zg un9 rfl rfl Ì wz ?_
         obtain ⟨_,X,g⟩:=bind_some g
         refine Mx 0 0 il ft E9 rfl rfl rfl (AV X) (wU X) wz ?_
         obtain ⟨Ý,Í,g⟩:=bind_some g
         refine Dw 0 il ft 0 sz5 rfl rfl Í (U.toNat:Int) rfl wz (af (au (aa (.d (.int .u64 b.2.1)) (aa (.d (.int .u64 (IntKind.u64.wrap F))) ?_))))
         obtain ⟨Ã,Õ,g⟩:=bind_some g
         refine Mt rfl rfl Õ wz (aa (.d (.int .u64 Ã)) (af ?_))
         obtain rfl:=ae g
         exact aV (C,((b.1.set ((w64 (b.2.2-1))).toNat (U.toNat:Int)),Ã,(w64 (b.2.2-1)))) w (ls_ _) rfl (aG rfl)
        ·refine ax rfl J (aU ?_)
         obtain rfl:=ae g
         obtain rfl:=ae w
         exact aW ((b.1,b.2.1,b.2.2)) rfl rfl (aG rfl)
      ·rintro b R y v i j
       subst R
       refine aO _ i j (ai (aa (vI b.2.2) (aa (vI (w64 (b.2.2-1))) (aa (vI (w64 (b.2.2-1))) (af (au (aa (vI (w64 (b.2.2-1))) (aa (.d (.int .u64 b.2.1)) ?_))))))))
       obtain ⟨Ä,Î,f⟩:=bind_some f
       refine zg un9 rfl rfl Î wz ?_
       obtain ⟨_,Y,f⟩:=bind_some f
       refine Mx 0 0 il ft E9 rfl rfl rfl (AV Y) (wU Y) wz ?_
       obtain ⟨Þ,Ï,f⟩:=bind_some f
       refine Dw 0 il ft 0 sz5 rfl rfl Ï (Ä.toNat:Int) rfl wz (af ?_)
       obtain rfl:=ae f
       exact cu
     ·refine ax rfl I (ai (aa (vI a) (rY un3 Kg rfl wz (aa (.d (.int .u64 (IntKind.u64.wrap a))) (af (ak ?_))))))
      obtain ⟨Û,Q,f⟩:=bind_some f
      obtain ⟨Ù,Q⟩:=bv Q
      refine cB (λ(c:(List Int)×Int×Int)=>[(0,(vL (eK .u8) l)),(1,(.d (.int .u64 c.2.1))),(3,(vB n)),(4,(vB k)),(10,.nil),(11,(vS (⟨#[]⟩:ByteArray))),(12,(.ref m 0 0)),(13,(vI c.2.2))]) (λ(c:(List Int)×Int×Int)=>[(m,some (bV 1 (eK .u8) c.1))]) (λ(E:Nat)=>(λ(c:(List Int)×Int×Int)=>[(0,(vL (eK .u8) l)),(1,(.d (.int .u64 c.2.1))),(3,(vB n)),(4,(vB k)),(10,.nil),(11,(vS (⟨#[]⟩:ByteArray))),(12,(.ref m 0 0)),(13,(vI c.2.2)),(17,(.d (.int .u64 (IntKind.u64.wrap a))))])) (λs=>jJ a s) Û Ù ((List.replicate 65 (0:Int)),T,65) Q rfl (aG rfl) ?_ ?_
      ·rintro ⟨E,c⟩ x
       dsimp only at x
       cases E with
       | zero=>cases x
       | succ E =>
        obtain ⟨Æ,h,x⟩:=bind_some x
        unfold jJ at h
        refine ak (ai (aa (.d (.int .u64 c.2.1)) (aa (.d (.int .u64 (IntKind.u64.wrap a))) (aa (vB (decide (c.2.1>=(IntKind.u64.wrap a)))) (af ?_)))))
        rcases aj h with⟨K,h⟩|⟨K,h⟩
        ·refine ay rfl K (av (aM (ai (aa (vI c.2.2) (aa (vI (w64 (c.2.2-1))) (aa (vI (w64 (c.2.2-1))) (af (ai (aa (.d (.int .u64 c.2.1)) (aa (.d (.int .u64 (IntKind.u64.wrap a))) ?_))))))))))
         obtain ⟨t,Ö,h⟩:=bind_some h
         refine PX rfl rfl Ö wz (aa (.d (.int .u64 t)) (af (ai (aa (vI (w64 (c.2.2-1))) (aa (.d (.int .u64 c.2.1)) (aa (.d (.int .u64 t)) (aa (.d (.int .u64 (IntKind.u64.wrap a))) (aa (.d (.int .u64 (IntKind.u64.wrap (t*(IntKind.u64.wrap a))))) (aa (.d (.int .u64 (IntKind.u64.wrap (c.2.1-(IntKind.u64.wrap (t*(IntKind.u64.wrap a))))))) ?_)))))))))
         obtain ⟨W,Ð,h⟩:=bind_some h
         refine zg un9 rfl rfl Ð wz ?_
         obtain ⟨_,Z,h⟩:=bind_some h
         refine Mx 0 0 il ft E9 rfl rfl rfl (AV Z) (wU Z) wz ?_
         obtain ⟨ß,Ñ,h⟩:=bind_some h
         refine Dw 0 il ft 0 sz5 rfl rfl Ñ (W.toNat:Int) rfl wz (af (au (aa (.d (.int .u64 t)) (aa (.d (.int .u64 t)) (af ?_)))))
         obtain rfl:=ae h
         exact aV (E,((c.1.set ((w64 (c.2.2-1))).toNat (W.toNat:Int)),t,(w64 (c.2.2-1)))) x (ls_ _) rfl (aG rfl)
        ·refine ax rfl K (aU ?_)
         obtain rfl:=ae h
         obtain rfl:=ae x
         exact aW ((c.1,c.2.1,c.2.2)) rfl rfl (aG rfl)
      ·rintro c R y v i j
       subst R
       refine aO _ i j (ai (aa (vI c.2.2) (aa (vI (w64 (c.2.2-1))) (aa (vI (w64 (c.2.2-1))) (af (au (aa (vI (w64 (c.2.2-1))) (aa (.d (.int .u64 c.2.1)) ?_))))))))
       obtain ⟨Å,Ò,f⟩:=bind_some f
       refine zg un9 rfl rfl Ò wz ?_
       obtain ⟨_,À,f⟩:=bind_some f
       refine Mx 0 0 il ft E9 rfl rfl rfl (AV À) (wU À) wz ?_
       obtain ⟨à,Ó,f⟩:=bind_some f
       refine Dw 0 il ft 0 sz5 rfl rfl Ó (Å.toNat:Int) rfl wz (af ?_)
       obtain rfl:=ae f
       exact cu
    ·rintro ⟨⟩ _ y v i j
     refine aO _ i j (ak (ai (aa (vB n) (af ?_))))
     obtain ⟨o,q,e⟩:=bind_some e
     refine aR [(0,(vL (eK .u8) l)),(4,(vB k)),(10,.nil),(11,(vS (⟨#[]⟩:ByteArray))),(12,(.ref m 0 0)),(13,(vI o.2))] [(m,some (bV 1 (eK .u8) o.1))] ?_ ?_
     ·rcases aj q with⟨L,q⟩|⟨L,q⟩
      ·refine ay rfl L (ai (aa (vI z.2) (aa (vI (w64 (z.2-1))) (aa (vI (w64 (z.2-1))) (af (au (aa (vI (w64 (z.2-1))) ?_)))))))
       obtain ⟨_,Á,q⟩:=bind_some q
       refine Mx 0 0 il ft E9 rfl rfl rfl (AV Á) (wU Á) wz ?_
       obtain ⟨á,Ô,q⟩:=bind_some q
       refine Dw 0 il ft 0 sz5 rfl rfl Ô 45 rfl wz (af ?_)
       obtain rfl:=ae q
       exact cu
      ·refine ax rfl L (av ?_)
       obtain rfl:=ae q
       exact cu
     ·rintro ⟨⟩ _ y v i j
      refine aO _ i j (ak (ai (aa (vB k) (af ?_))))
      rcases aj e with⟨M,e⟩|⟨M,e⟩
      ·refine ay rfl M (ai (aa (vL (eK .u8) l) (aa (vI o.2) ?_)))
       obtain ⟨_,Ç,e⟩:=bind_some e
       obtain ⟨_,Ë,e⟩:=bind_some e
       refine LX 0 0 il ft E9 rfl rfl rfl Ç Ë wz ?_
       cases e
      ·refine ax rfl M (av (ai (aa (vI o.2) ?_)))
       obtain ⟨_,È,e⟩:=bind_some e
       obtain ⟨_,Â,e⟩:=bind_some e
       refine LX 0 0 il ft E9 rfl rfl rfl È Â wz (h_convp 0 0 il ft Sc un9 un5 rfl rfl (tN Â) wz (aa (vS (Go.strOfNums (FI o.1 ((o.2).toNat) (((o.1.length:Int)).toNat-(o.2).toNat)))) (af ?_)))
       obtain rfl:=ae e
       exact aC (aN [.nil,(vS (Go.strOfNums (FI o.1 ((o.2).toNat) (((o.1.length:Int)).toNat-(o.2).toNat))))] ⟨rfl,⟨rfl,trivial⟩⟩)
theorem sO {c:Int} {e:Int} {r:ByteArray} (a:jd c e=some r) :
  FnM Tryz.prog 121 [(.d (.int .u64 c)),(vI e)] [] (vS r) []:=by
 refine FnM.of_wH ⟨Tryz.prog,32,[],[]⟩ rfl Tryz.func121 rfl rfl (lb_ rfl) (by kernel_rfl) ?_
 unfold jd at a
 refine ai (aa (vS (⟨#[]⟩:ByteArray)) (af (ak (ai (aa (vI e) (aa (vB (e==10)) (af ?_)))))))
 rcases aj a with⟨f,a⟩|⟨f,a⟩
 ·refine ay rfl f (ak (ai (aa (.d (.int .u64 c)) (aa (vB (decide (c<100))) (af ?_)))))
  rcases aj a with⟨g,a⟩|⟨g,a⟩
  ·refine ay rfl g (ai (aa (.d (.int .u64 c)) (rY Kg un3 rfl wz ?_)))
   cases a
  ·refine ax rfl g (av (ai (MR (List.replicate 24 (0:Int)) 0 (.inl rfl) z238 (by kernel_rfl) (by kernel_rfl) ab238 wz (λi=>af (ai (aa (.d (.int .u64 c)) ?_))))))
   cases a
 ·refine ax rfl f (av (ai (aa (.d (.int .u64 c)) (aa (vI e) ?_))))
  obtain ⟨b,h,a⟩:=bind_some a
  refine aB (sK h) rfl hb167 rfl rfl rfl rfl wz (aa (.tup [(vL (eK .u8) b.1),(vS b.2)]) (aa (vL (eK .u8) b.1) (aa (vS b.2) (aa (vL (eK .u8) b.1) (aa (vS b.2) (af (ai (aa (vS b.2) (aa (vS b.2) (af ?_))))))))))
  obtain rfl:=ae a
  exact aC (aN [(vS b.2)] ⟨rfl,trivial⟩)
theorem zW {c:Int} {b:Int} {r:ByteArray} (a:kX c b=some r) :
  FnM Tryz.prog 78 [(.d (.int .u64 c)),(vI b)] [] (vS r) []:=by
 refine FnM.of_wH ⟨Tryz.prog,8,[],[]⟩ rfl Tryz.func78 rfl rfl (lb_ rfl) (by kernel_rfl) ?_
 unfold kX at a
 refine ai (aa (vS (⟨#[]⟩:ByteArray)) (af (ai (aa (.d (.int .u64 c)) (aa (vI b) ?_)))))
 obtain ⟨e,f,a⟩:=bind_some a
 refine aB (sO f) rfl hb121 rfl rfl rfl rfl wz (aa (vS e) (af ?_))
 obtain rfl:=ae a
 exact aC (aN [(vS e)] ⟨rfl,trivial⟩)
theorem Df {x0:ByteArray} {x1:Int} {r:ByteArray} (a:strings_Repeat x0 x1=some r) :
  FnM Tryz.prog 79 [(vS x0),(vI x1)] [] (vS r) [] :=
 Q4 rfl Tryz.strings_Repeat  a
theorem xU {c:ByteArray} {r:ByteArray} (b:oI c=some r) :
  FnM Tryz.prog 49 [(vS c)] [] (vS r) []:=by
 refine FnM.of_wH ⟨Tryz.prog,27,[],[]⟩ rfl Tryz.func49 rfl rfl (lb_ rfl) (by kernel_rfl) ?_
 unfold oI at b
 refine ai (aa (vS (⟨#[]⟩:ByteArray)) (af (ai (aa (.d (.int .u64 14695981039346656037)) (af (ak (ai (aa (vS c) (Cj un9 rfl wz (aa (vI 0) (af ?_)))))))))))
 obtain ⟨z,l,b⟩:=bind_some b
 obtain ⟨o,l⟩:=aY l
 refine bN (λ(a:Int)=>[(3,(.d (.int .u64 a)))]) (λ(a:Int)=>[]) (λ(e:Nat)=>(λ(a:Int)=>[(0,(vS c)),(3,(.d (.int .u64 a))),(7,(vI (c.size:Int))),(8,(vI (e:Int)))])) (λk x s=>qd c k x s) z (List.range ((c.size:Int)).toNat) 14695981039346656037 l rfl (aG rfl) ?_ ?_
 ·rintro ⟨e,m,a⟩ ⟨g,f⟩
  dsimp only at g f
  cases m with
  | nil =>
   obtain rfl:=ae g
   refine ai (aa (vB (decide ((e:Int)<(c.size:Int)))) (af ?_))
   refine ak (ax rfl (lH f) (aU ?_))
   exact aW (a) rfl rfl (aG rfl)
  | cons F m =>
   obtain ⟨B,i,g⟩:=bind_some g
   refine ai (aa (vB (decide ((e:Int)<(c.size:Int)))) (af ?_))
   refine ak (ay rfl (jZ f) (av ?_))
   unfold qd at i
   refine ak (aM (ai (aa (vI (e:Int)) (aa (vI (e:Int)) (af (au (aa (.d (.int .u64 a)) (aa (vS c) (aa (vI (e:Int)) ?_)))))))))
   obtain ⟨h,w,i⟩:=bind_some i
   refine zg un9 rfl rfl w wz (rY un5 Kg rfl wz (aa (.d (.int .u64 (vM .u64 a (IntKind.u64.wrap (h.toNat:Int))))) (aa (.d (.int .u64 (IntKind.u64.wrap ((vM .u64 a (IntKind.u64.wrap (h.toNat:Int)))*1099511628211)))) (aa (.d (.int .u64 (IntKind.u64.wrap ((vM .u64 a (IntKind.u64.wrap (h.toNat:Int)))*1099511628211)))) (af (au (dH (lF f o) wz rfl (aa (vI ((e+1:Nat):Int)) (af ?_)))))))))
   obtain rfl:=ae i
   exact aV (e+1,m,(IntKind.u64.wrap ((vM .u64 a (IntKind.u64.wrap (h.toNat:Int)))*1099511628211))) ⟨g,aX f⟩ (ls_ _) rfl (aG rfl)
 ·rintro a p E A q t
  subst p
  refine aO _ q t (ai (aa (.d (.int .u64 a)) ?_))
  obtain ⟨j,u,b⟩:=bind_some b
  refine aB (zW u) rfl hb78 rfl rfl rfl rfl wz (aa (vS j) (af (ai (aa (vS j) (Cj un9 rfl wz (aa (vI (w64 (16-(j.size:Int)))) ?_))))))
  obtain ⟨C,v,b⟩:=bind_some b
  refine aB (Df v) rfl hb79 rfl rfl rfl rfl wz (aa (vS j) ?_)
  obtain ⟨n,y,b⟩:=bind_some b
  refine pR rfl rfl y wz (aa (vS n) (af ?_))
  obtain rfl:=ae b
  exact aC (aN [(vS n)] ⟨rfl,trivial⟩)
theorem BS {b:Log_} {r:ByteArray} (a:sV b=some r) :
  FnM Tryz.prog 51 [(.d (.agg (Log_.enc b)))] [] (vS r) []:=by
 refine FnM.of_wH ⟨Tryz.prog,11,[],[]⟩ rfl Tryz.func51 rfl rfl (lb_ rfl) (by kernel_rfl) ?_
 unfold sV at a
 refine ai (ib 0 (.inl rfl) (Log_.v b) rfl rfl wz (λj=>aa (vS (⟨#[]⟩:ByteArray)) (af (ak (bg (aI 0 0 (.inr (by kernel_rfl)) (λ_ _ ag=>trivial) lw rQ rfl rfl (.d (.agg (Log_.enc b))) rfl wz ?_))))))
 obtain ⟨k,f,a⟩:=bind_some a
 refine aB (Jo f) rfl hb82 rfl rfl rfl rfl wz ?_
 obtain ⟨l,h,a⟩:=bind_some a
 refine pR rfl rfl h wz ?_
 obtain ⟨m,i,a⟩:=bind_some a
 refine pR rfl rfl i wz (aK GY rfl 5 rfl wz (aI 5 0 (.inr (by kernel_rfl)) (λ_ _ ag=>⟨.inl ⟨rfl,rfl⟩,trivial⟩) sz9 ag9 rfl rfl (vS b.Sum) rfl wz ?_))
 obtain ⟨n,g,a⟩:=bind_some a
 refine pR rfl rfl g wz ?_
 obtain ⟨c,e,a⟩:=bind_some a
 refine aB (xU e) rfl hb49 rfl rfl rfl rfl wz (aa (vS c) (af ?_))
 obtain rfl:=ae a
 exact aC (aN [(vS c)] ⟨rfl,trivial⟩)
theorem zA {c:(List Log_)} {r:(List ByteArray)} (j:o9 c=some r) :
  FnM Tryz.prog 47 [(vL Log_.enc c)] [] (vL eS r) []:=by
 refine FnM.of_wH ⟨Tryz.prog,19,[],[]⟩ rfl Tryz.func47 rfl rfl (lb_ rfl) (by kernel_rfl) ?_
 unfold o9 at j
 refine ai (aa .nil (af (ai (aa .nil (af (ak (ai (aa (vL Log_.enc c) (bA uK rfl wz (aa (vI 0) (af (iM (λB => ?_)))))))))))))
 obtain ⟨C,l,j⟩:=bind_some j
 obtain ⟨t,l⟩:=aY l
 refine iw (σ:=(List ByteArray)) (N:=Nm) (λp=>(λ(a:List ByteArray) (b:Nm)=>([(3,(gV b 1 a))]:SL_)) p.1 p.2) (λp=>(λ(a:List ByteArray) (b:Nm)=>([(b,gB 1 eS a)]:Hp)) p.1 p.2) (λ(g:Nat)=>(λp=>(λ(a:List ByteArray) (b:Nm)=>([(3,(gV b 1 a)),(6,(vL Log_.enc c)),(7,(vI (c.length:Int))),(8,(vI (g:Int)))]:SL_)) p.1 p.2)) (λk x s=>nI k x s) C c (([]:List ByteArray),B) l rfl (aG rfl) ?_ ?_
 ·rintro ⟨g,m,a,b⟩ ⟨h,e⟩
  dsimp only at h e
  cases m with
  | nil =>
   obtain rfl:=ae h
   refine ai (aa (vB (decide ((g:Int)<(c.length:Int)))) (af ?_))
   refine ak (ax rfl (drop_nil e) (aU ?_))
   exact aW (a,b) rfl rfl (aG rfl)
  | cons n m =>
   obtain ⟨G,f,h⟩:=bind_some h
   refine ai (aa (vB (decide ((g:Int)<(c.length:Int)))) (af ?_))
   refine ak (ay rfl (bu e) (av ?_))
   unfold nI at f
   refine ak (aM (ai (dC sG rfl rfl (bI e) rfl wz (bE lw rQ rfl (.d (.agg (Log_.enc n))) rfl wz (dA 0 (.inl rfl) z37 rfl wz (λH=>jw 0 il ft 1 lw rfl rfl (Log_.v n) rfl wz (af (au (aa (gV b 1 a) (aI 0 1 il ft lw rQ rfl rfl (.d (.agg (Log_.enc n))) rfl wz ?_))))))))))
   obtain ⟨E,z,f⟩:=bind_some f
   refine aB (BS z) rfl hb51 rfl rfl rfl rfl wz (eu (([E]:List ByteArray).map eS) rF IP rfl rfl rfl rfl rfl wz ?_)
   obtain ⟨o,A,f⟩:=bind_some f
   refine jF 0 il ft (i:=0) FN FN sz9 z9 rfl (by decide) by9 (by decide) (λ_=>rfl) rfl rfl rfl A wz (λq=>aa (gV q 1 o) (af (au (dH (bz e t) wz rfl (aa (vI ((g+1:Nat):Int)) (af ?_))))))
   obtain rfl:=ae f
   exact aV (g+1,m,o,q) ⟨h,aX e⟩ (ls_ _) rfl (aG rfl)
 ·rintro ⟨a,b⟩ u I F w y
  subst u
  refine aO _ w y (ai (aa (gV b 1 a) (aa (gV b 1 a) (af (iq 0 rfl (cO 2 0 rfl rfl (cO 3 0 rfl rfl (cO 18 0 rfl rfl ?_))))))))
  obtain rfl:=ae j
  exact aC (aN [(vL eS a)] ⟨rfl,trivial⟩)
theorem xY {b:ByteArray} {c:ByteArray} {r:ByteArray} (a:nE b c=some r) :
  FnM Tryz.prog 52 [(vS b),(vS c)] [] (vS r) []:=by
 refine FnM.of_wH ⟨Tryz.prog,11,[],[]⟩ rfl Tryz.func52 rfl rfl (lb_ rfl) (by kernel_rfl) ?_
 unfold nE at a
 refine ai (aa (vS (⟨#[]⟩:ByteArray)) (af (ai (aa (vS b) ?_))))
 obtain ⟨i,f,a⟩:=bind_some a
 refine pR rfl rfl f wz ?_
 obtain ⟨j,g,a⟩:=bind_some a
 refine pR rfl rfl g wz (aa (vS c) ?_)
 obtain ⟨k,h,a⟩:=bind_some a
 refine pR rfl rfl h wz ?_
 obtain ⟨d,e,a⟩:=bind_some a
 refine aB (xU e) rfl hb49 rfl rfl rfl rfl wz (aa (vS d) (af ?_))
 obtain rfl:=ae a
 exact aC (aN [(vS d)] ⟨rfl,trivial⟩)
theorem zz {c:(List ByteArray)} {r:(List ByteArray)} (h:pu c=some r) :
  FnM Tryz.prog 48 [(vL eS c)] [] (vL eS r) []:=by
 refine FnM.of_wH ⟨Tryz.prog,37,[],[]⟩ rfl Tryz.func48 rfl rfl (lb_ rfl) (by kernel_rfl) ?_
 unfold pu at h
 refine ai (aa .nil (af (ai (aa .nil (af (ak (ai (aa (vI 0) (af (iM (λH => ?_)))))))))))
 obtain ⟨J,m,h⟩:=bind_some h
 obtain ⟨I,m⟩:=bv m
 refine yG (σ:=(List ByteArray)×Int) (N:=Nm) (λp=>(λ(a:(List ByteArray)×Int) (d:Nm)=>([(3,(gV d 1 a.1))]:SL_)) p.1 p.2) (λp=>(λ(a:(List ByteArray)×Int) (d:Nm)=>([(d,gB 1 eS a.1)]:Hp)) p.1 p.2) (λ(j:Nat)=>(λp=>(λ(a:(List ByteArray)×Int) (d:Nm)=>([(0,(vL eS c)),(3,(gV d 1 a.1)),(4,(vI a.2))]:SL_)) p.1 p.2)) (λs=>qG c s) J I ((([]:List ByteArray),0),H) m rfl (aG rfl) ?_ ?_
 ·rintro ⟨j,a,d⟩ f
  dsimp only at f
  cases j with
  | zero=>cases f
  | succ j =>
   obtain ⟨P,e,f⟩:=bind_some f
   unfold qG at e
   refine ak (ai (aa (vI a.2) (aa (vL eS c) (bA vk rfl wz (aa (vB (decide (a.2<(c.length:Int)))) (af ?_))))))
   rcases aj e with⟨k,e⟩|⟨k,e⟩
   ·refine ay rfl k (av (ak (aM (ai (aa (vI a.2) (aa (vI (w64 (a.2+1))) (aa (vL eS c) (bA vk rfl wz (aa (vB (decide ((w64 (a.2+1))<(c.length:Int)))) (af ?_))))))))))
    obtain ⟨q,b,e⟩:=bind_some e
    refine lu (β:=Nm) (λ(g:Nm)=>([(0,(vL eS c)),(3,(gV g 1 q)),(4,(vI a.2))]:SL_)) (λ(g:Nm)=>([(g,gB 1 eS q)]:Hp)) (λ_=>True) ?_ ?_
    ·rcases aj b with⟨l,b⟩|⟨l,b⟩
     ·refine ay rfl l (bg (aa (gV d 1 a.1) (aa (vL eS c) (aa (vI a.2) ?_))))
      obtain ⟨M,B,b⟩:=bind_some b
      refine dC rF rfl rfl B rfl wz (bE sz9 ag9 rfl (vS M) rfl wz (aa (vL eS c) (aa (vI a.2) (aa (vI (w64 (a.2+1))) ?_))))
      obtain ⟨O,C,b⟩:=bind_some b
      refine dC rF rfl rfl C rfl wz (bE sz9 ag9 rfl (vS O) rfl wz ?_)
      obtain ⟨K,A,b⟩:=bind_some b
      refine aB (xY A) rfl hb52 rfl rfl rfl rfl wz (eu (([K]:List ByteArray).map eS) rF IP rfl rfl rfl rfl rfl wz ?_)
      obtain ⟨x,F,b⟩:=bind_some b
      refine jF 12 (.inr (by kernel_rfl)) (λ_ _ ag=>trivial) (i:=0) FN FN sz9 z9 rfl (by decide) by9 (by decide) (λ_=>rfl) rfl rfl rfl F wz (λt=>aa (gV t 1 x) (af ?_))
      obtain rfl:=ae b
      exact aW t trivial rfl (aG rfl)
     ·refine ax rfl l (au (aa (gV d 1 a.1) (aa (vL eS c) (aa (vI a.2) ?_))))
      obtain ⟨v,E,b⟩:=bind_some b
      refine dC rF rfl rfl E rfl wz (bE sz9 ag9 rfl (vS v) rfl wz (eu (([v]:List ByteArray).map eS) rF IP rfl rfl rfl rfl rfl wz ?_))
      obtain ⟨y,G,b⟩:=bind_some b
      refine jF 0 il ft (i:=0) FN FN sz9 z9 rfl (by decide) by9 (by decide) (λ_=>rfl) rfl rfl rfl G wz (λu=>aa (gV u 1 y) (af ?_))
      obtain rfl:=ae b
      exact aW u trivial rfl (aG rfl)
    ·rintro g _ L w n o
     refine aO _ n o (au (aa (vI a.2) (aa (vI (w64 (a.2+2))) (aa (vI (w64 (a.2+2))) (af ?_)))))
     obtain rfl:=ae e
     exact aV (j,(q,(w64 (a.2+2))),g) f (ls_ _) rfl (aG rfl)
   ·refine ax rfl k (aU ?_)
    obtain rfl:=ae e
    obtain rfl:=ae f
    exact aW ((a.1,a.2),d) rfl rfl (aG rfl)
 ·rintro ⟨a,d⟩ z L w n o
  subst z
  refine aO _ n o (ai (aa (gV d 1 a.1) (aa (gV d 1 a.1) (af (iq 0 rfl (cO 2 0 rfl rfl (cO 3 0 rfl rfl (cO 36 0 rfl rfl ?_))))))))
  obtain rfl:=ae h
  exact aC (aN [(vL eS a.1)] ⟨rfl,trivial⟩)
theorem Ji {g:(List Log_)} {k:Int} {r:(List ByteArray)×Int} (b:vZ g k=some r) :
  FnM Tryz.prog 15 [(vL Log_.enc g),(vI k)] [] (.tup [(vL eS r.1),(vI r.2)]) []:=by
 refine FnM.of_wH ⟨Tryz.prog,43,[],[]⟩ rfl Tryz.func15 rfl rfl (lb_ rfl) (by kernel_rfl) ?_
 unfold vZ at b
 refine ai (aa .nil (aa (vI 0) (af (ak (ai (aa (vL Log_.enc g) ?_))))))
 obtain ⟨h,H,b⟩:=bind_some b
 refine aB (nC H) rfl hb29 rfl rfl rfl rfl wz (aa (vI h) (af (ai (aa (vI h) (aa (vB (h != 0)) (af ?_))))))
 rcases aj b with⟨o,b⟩|⟨o,b⟩
 ·refine ay rfl o (ai (aa (vI h) (aa .nil (aa (vI h) (af ?_)))))
  obtain rfl:=ae b
  exact aC (aN [.nil,(vI h)] ⟨rfl,⟨rfl,trivial⟩⟩)
 ·refine ax rfl o (av (ak (ai (aa (vI k) (aa (vL Log_.enc g) (bA uK rfl wz (aa (vI (w64 ((g.length:Int)-1))) ?_)))))))
  obtain ⟨R,I,b⟩:=bind_some b
  refine aB (bf I) rfl qc rfl rfl rfl rfl wz (af ?_)
  rcases aj b with⟨q,b⟩|⟨q,b⟩
  ·refine ay rfl q (ai (aa .nil (aa (vI 1) (af ?_))))
   obtain rfl:=ae b
   exact aC (aN [.nil,(vI 1)] ⟨rfl,⟨rfl,trivial⟩⟩)
  ·refine ax rfl q (av (ai (aa .nil (af (ak (ai (aa (vL Log_.enc g) ?_)))))))
   obtain ⟨z,F,b⟩:=bind_some b
   refine aB (zA F) rfl hb47 rfl rfl rfl rfl wz (aa (vL eS z) (af (iM (λL => ?_))))
   obtain ⟨O,t,b⟩:=bind_some b
   obtain ⟨M,t⟩:=bv t
   refine yG (σ:=(List ByteArray)×Int×(List ByteArray)) (N:=Nm) (λp=>(λ(a:(List ByteArray)×Int×(List ByteArray)) (c:Nm)=>([(7,(gV c 1 a.1))]:SL_)) p.1 p.2) (λp=>(λ(a:(List ByteArray)×Int×(List ByteArray)) (c:Nm)=>([(c,gB 1 eS a.1)]:Hp)) p.1 p.2) (λ(l:Nat)=>(λp=>(λ(a:(List ByteArray)×Int×(List ByteArray)) (c:Nm)=>([(1,(vI a.2.1)),(7,(gV c 1 a.1)),(8,(vL eS a.2.2))]:SL_)) p.1 p.2)) (λs=>kJ s) O M ((([]:List ByteArray),k,z),L) t rfl (aG rfl) ?_ ?_
   ·rintro ⟨l,a,c⟩ f
    dsimp only at f
    cases l with
    | zero=>cases f
    | succ l =>
     obtain ⟨Q,d,f⟩:=bind_some f
     unfold kJ at d
     refine ak (ai (aa (vL eS a.2.2) (bA vk rfl wz (aa (vB (decide ((a.2.2.length:Int)>1))) (af ?_)))))
     rcases aj d with⟨m,d⟩|⟨m,d⟩
     ·refine ay rfl m (av (ak (aM (ak (ai (aa (vI a.2.1) (aa (vI (vM .i64 a.2.1 1)) (aa (vI (vM .i64 a.2.1 1)) (af (ai (aa (vI (vM .i64 a.2.1 1)) (aa (vL eS a.2.2) (bA vk rfl wz (aa (vB (decide ((vM .i64 a.2.1 1)<(a.2.2.length:Int)))) (af ?_)))))))))))))))
      obtain ⟨w,e,d⟩:=bind_some d
      refine lu (β:=Nm) (λ(j:Nm)=>([(1,(vI a.2.1)),(7,(gV j 1 w)),(8,(vL eS a.2.2))]:SL_)) (λ(j:Nm)=>([(j,gB 1 eS w)]:Hp)) (λ_=>True) ?_ ?_
      ·rcases aj e with⟨n,e⟩|⟨n,e⟩
       ·refine ay rfl n (au (aa (gV c 1 a.1) (aa (vL eS a.2.2) (aa (vI (vM .i64 a.2.1 1)) ?_))))
        obtain ⟨A,J,e⟩:=bind_some e
        refine dC rF rfl rfl J rfl wz (bE sz9 ag9 rfl (vS A) rfl wz (eu (([A]:List ByteArray).map eS) rF IP rfl rfl rfl rfl rfl wz ?_))
        obtain ⟨C,K,e⟩:=bind_some e
        refine jF 0 il ft (i:=0) FN FN sz9 z9 rfl (by decide) by9 (by decide) (λ_=>rfl) rfl rfl rfl K wz (λx=>aa (gV x 1 C) (af ?_))
        obtain rfl:=ae e
        exact aW x trivial rfl (aG rfl)
       ·refine ax rfl n (av ?_)
        obtain rfl:=ae e
        exact aW c trivial rfl (aG rfl)
      ·rintro j _ P B u v
       refine aO _ u v (au (aa (vI a.2.1) (aa (vI (w64 (a.2.1.tdiv 2))) (aa (vI (w64 (a.2.1.tdiv 2))) (af (au (aa (vL eS a.2.2) ?_)))))))
       obtain ⟨y,G,d⟩:=bind_some d
       refine aB (zz G) rfl hb48 rfl rfl rfl rfl wz (aa (vL eS y) (af ?_))
       obtain rfl:=ae d
       exact aV (l,(w,(w64 (a.2.1.tdiv 2)),y),j) f (ls_ _) rfl (aG rfl)
     ·refine ax rfl m (aU ?_)
      obtain rfl:=ae d
      obtain rfl:=ae f
      exact aW ((a.1,a.2.1,a.2.2),c) rfl rfl (aG rfl)
   ·rintro ⟨a,c⟩ E P B u v
    subst E
    refine aO _ u v (ai (aa (gV c 1 a.1) (aa (gV c 1 a.1) (aa (vI 0) (af (iq 0 rfl (cO 4 0 rfl rfl (cO 7 0 rfl rfl (cO 42 0 rfl rfl ?_)))))))))
    obtain rfl:=ae b
    exact aC (aN [(vL eS a.1),(vI 0)] ⟨rfl,⟨rfl,trivial⟩⟩)
theorem tT {b:(List ByteArray)} {r:(List ByteArray)} (a:fQ b=some r) :
  FnM Tryz.prog 16 [(vL eS b)] [] (vL eS r) []:=by
 refine FnM.of_wH ⟨Tryz.prog,8,[],[]⟩ rfl Tryz.func16 rfl rfl (lb_ rfl) (by kernel_rfl) ?_
 unfold fQ at a
 refine ai (aa .nil (af (ak (ai (aa (vL eS b) (h_nileq vk rfl wz (λd e=>af ?_)))))))
 cases d with
 | true =>
  refine ay rfl rfl ?_
  obtain rfl:=e rfl
  replace a:=QO a
  refine ai (aa .nil (af ?_))
  obtain rfl:=ae a
  exact aC (aN [.nil] ⟨rfl,trivial⟩)
 | false =>
  refine ax rfl rfl (av (ai (h_lit0 rF IP rfl wz (aa (vL eS b) ?_))))
  obtain ⟨c,f,a⟩:=bind_some a
  refine h_appn 0 (.inl rfl) FN FN sz9 z9 rfl (by decide) by9 (by decide) (λ_=>rfl) rfl rfl f wz (λg=>aa (gV g 1 c) (af (iq 0 rfl (cO 2 0 rfl rfl (cO 7 0 rfl rfl ?_)))))
  obtain rfl:=ae a
  exact aC (aN [(vL eS c)] ⟨rfl,trivial⟩)
theorem I8 {g:(List Log_)} {r:ByteArray×Int} (a:vO g=some r) :
  FnM Tryz.prog 17 [(vL Log_.enc g)] [] (.tup [(vS r.1),(vI r.2)]) []:=by
 refine FnM.of_wH ⟨Tryz.prog,25,[],[]⟩ rfl Tryz.func17 rfl rfl (lb_ rfl) (by kernel_rfl) ?_
 unfold vO at a
 refine ai (aa (vS (⟨#[]⟩:ByteArray)) (aa (vI 0) (af (ak (ai (aa (vL Log_.enc g) ?_))))))
 obtain ⟨e,v,a⟩:=bind_some a
 refine aB (nC v) rfl hb29 rfl rfl rfl rfl wz (aa (vI e) (af (ai (aa (vI e) (aa (vB (e != 0)) (af ?_))))))
 rcases aj a with⟨j,a⟩|⟨j,a⟩
 ·refine ay rfl j (ai (aa (vI e) (aa (vS (⟨#[]⟩:ByteArray)) (aa (vI e) (af ?_)))))
  obtain rfl:=ae a
  exact aC (aN [(vS (⟨#[]⟩:ByteArray)),(vI e)] ⟨rfl,⟨rfl,trivial⟩⟩)
 ·refine ax rfl j (av (ai (aa (vL Log_.enc g) ?_)))
  obtain ⟨h,w,a⟩:=bind_some a
  refine aB (zA w) rfl hb47 rfl rfl rfl rfl wz (aa (vL eS h) (af (ak (ai (aa (vL eS h) (bA vk rfl wz (aa (vB ((h.length:Int)==0)) (af ?_))))))))
  rcases aj a with⟨k,a⟩|⟨k,a⟩
  ·refine ay rfl k (ai ?_)
   obtain ⟨o,x,a⟩:=bind_some a
   refine aB (xU x) rfl hb49 rfl rfl rfl rfl wz (aa (vS o) (aa (vI 0) (af ?_)))
   obtain rfl:=ae a
   exact aC (aN [(vS o),(vI 0)] ⟨rfl,⟨rfl,trivial⟩⟩)
  ·refine ax rfl k (av (ak ?_))
   obtain ⟨A,l,a⟩:=bind_some a
   obtain ⟨z,l⟩:=bv l
   refine cB (λ(b:List ByteArray)=>[(5,(vL eS b))]) (λ(b:List ByteArray)=>[]) (λ(f:Nat)=>(λ(b:List ByteArray)=>[(5,(vL eS b))])) (λs=>lW s) A z h l rfl (aG rfl) ?_ ?_
   ·rintro ⟨f,b⟩ d
    dsimp only at d
    cases f with
    | zero=>cases d
    | succ f =>
     obtain ⟨C,c,d⟩:=bind_some d
     unfold lW at c
     refine ak (ai (aa (vL eS b) (bA vk rfl wz (aa (vB (decide ((b.length:Int)>1))) (af ?_)))))
     rcases aj c with⟨i,c⟩|⟨i,c⟩
     ·refine ay rfl i (av (aM (au (aa (vL eS b) ?_))))
      obtain ⟨n,u,c⟩:=bind_some c
      refine aB (zz u) rfl hb48 rfl rfl rfl rfl wz (aa (vL eS n) (af ?_))
      obtain rfl:=ae c
      exact aV (f,n) d (ls_ _) rfl (aG rfl)
     ·refine ax rfl i (aU ?_)
      obtain rfl:=ae c
      obtain rfl:=ae d
      exact aW (b) rfl rfl (aG rfl)
   ·rintro b p E B q t
    subst p
    refine aO _ q t (ai (aa (vL eS b) ?_))
    obtain ⟨m,y,a⟩:=bind_some a
    refine dC rF rfl rfl y rfl wz (bE sz9 ag9 rfl (vS m) rfl wz (aa (vS m) (aa (vI 0) (af ?_))))
    obtain rfl:=ae a
    exact aC (aN [(vS m),(vI 0)] ⟨rfl,⟨rfl,trivial⟩⟩)
theorem yT {c:ByteArray} {r:Bool} (a:kG c=some r) :
  FnM Tryz.prog 81 [(vS c)] [] (vB r) []:=by
 refine FnM.of_wH ⟨Tryz.prog,6,[],[]⟩ rfl Tryz.func81 rfl rfl (lb_ rfl) (by kernel_rfl) ?_
 unfold kG at a
 refine ai (aa (vB false) (af (ai (aa (vS c) ?_))))
 obtain ⟨b,d,a⟩:=bind_some a
 refine aB (qB d) rfl hb63 rfl rfl rfl rfl wz (aa (vB (!b)) (aa (vB (!b)) (af ?_)))
 obtain rfl:=ae a
 exact aC (aN [(vB (!b))] ⟨rfl,trivial⟩)
theorem rz {c:(List ByteArray)} {i:ByteArray->Option Bool} {r:Int} {gid:FuncId} {caps:List V} {Sin:List Box} (hfn:∀x0 r,i x0=some r->FnM Tryz.prog gid ([(vS x0)]++caps) Sin (vB r) (Sin.map some)) (hbF:aJ Tryz.prog gid=true) (hcapF:caps.flatMap frz=[]/\caps.map co0=caps) (hokF:okL Sin.length caps=true) (hsF:∀b∈Sin,b.ok Sin.length=true) (hmF:∀b∈Sin,b.mut=true) (g:gH c i=some r) :
  FnM Tryz.prog 128 [(vL eS c),(.fn gid caps)] Sin (vI r) (Sin.map some):=by
 refine FnM.of_wH ⟨Tryz.prog,19,[],[]⟩ rfl Tryz.func128 rfl rfl (lb_ rfl) (by kernel_rfl) ?_
 unfold gH at g
 refine ai (aa (vI 0) (af (ak (ai (aa (vL eS c) (bA vk rfl wz (aa (vI 0) (af ?_))))))))
 obtain ⟨u,l,g⟩:=bind_some g
 obtain ⟨n,l⟩:=aY l
 refine bN (λ(h:Unit)=>[]) (λ(h:Unit)=>(qW 0 Sin)) (λ(a:Nat)=>(λ(h:Unit)=>[(0,(vL eS c)),(1,(.fn gid caps)),(7,(vI (c.length:Int))),(8,(vI (a:Int)))])) (λk x s=>bS i k x s) u c () l rfl (yF _) ?_ ?_
 ·rintro ⟨a,m,h⟩ ⟨f,e⟩
  dsimp only at f e
  cases m with
  | nil =>
   obtain rfl:=ae f
   refine ai (aa (vB (decide ((a:Int)<(c.length:Int)))) (af ?_))
   refine ak (ax rfl (drop_nil e) (aU ?_))
   exact aW (h) rfl rfl (yF _)
  | cons v m =>
   obtain ⟨y,d,f⟩:=bind_some f
   refine ai (aa (vB (decide ((a:Int)<(c.length:Int)))) (af ?_))
   refine ak (ay rfl (bu e) (av ?_))
   unfold bS at d
   refine ak (aM (ai (aa (vI (a:Int)) (aa (vI (a:Int)) (af (ai (aa (.fn gid caps) (aa (vL eS c) (aa (vI (a:Int)) (dC rF rfl rfl (bI e) rfl wz (bE sz9 ag9 rfl (vS v) rfl wz ?_)))))))))))
   obtain ⟨z,t,d⟩:=bind_some d
   refine Gn (hfn _ _ t) rfl hbF rfl rfl hcapF hokF hsF hmF rfl wz rfl (af ?_)
   rcases aj d with⟨j,d⟩|⟨j,d⟩
   ·refine ay rfl j (ai (aa (vI (a:Int)) (aa (vI (a:Int)) (af ?_))))
    obtain rfl:=ae d
    obtain rfl:=ae f
    obtain rfl:=ae g
    exact aC (QY hsF (.inr rfl) [(vI (a:Int))] ⟨rfl,trivial⟩ rfl rfl rfl)
   ·refine ax rfl j (av (au (dH (bz e n) wz rfl (aa (vI ((a+1:Nat):Int)) (af ?_)))))
    obtain rfl:=ae d
    exact aV (a+1,m,()) ⟨f,aX e⟩ (ls_ _) rfl (yF _)
 ·rintro h o A w p q
  subst o
  refine aO _ p q (ai (aa (vI (-1)) (af ?_)))
  obtain rfl:=ae g
  exact aC (QY hsF (.inr rfl) [(vI (-1))] ⟨rfl,trivial⟩ rfl rfl rfl)
theorem pY {d:(List ByteArray)} {e:ByteArray->Option Bool} {r:Bool} {gid:FuncId} {caps:List V} {Sin:List Box} (hfn:∀x0 r,e x0=some r->FnM Tryz.prog gid ([(vS x0)]++caps) Sin (vB r) (Sin.map some)) (hbF:aJ Tryz.prog gid=true) (hcapF:caps.flatMap frz=[]/\caps.map co0=caps) (hokF:okL Sin.length caps=true) (hsF:∀b∈Sin,b.ok Sin.length=true) (hmF:∀b∈Sin,b.mut=true) (a:dG d e=some r) :
  FnM Tryz.prog 80 [(vL eS d),(.fn gid caps)] Sin (vB r) (Sin.map some):=by
 refine FnM.of_wH ⟨Tryz.prog,9,[],[]⟩ rfl Tryz.func80 rfl rfl (lb_ rfl) (by kernel_rfl) ?_
 unfold dG at a
 refine ai (aa (vB false) (af (ai (aa (vL eS d) (aa (.fn gid caps) ?_)))))
 obtain ⟨c,f,a⟩:=bind_some a
 refine Gn (rz (gid:=gid) (caps:=caps) (Sin:=Sin) hfn hbF hcapF hokF hsF hmF f) rfl hb128 rfl rfl ⟨rfl,rfl⟩ (by simp [okL,okV,hokF]) hsF hmF rfl wz rfl (aa (vB (decide (c>=0))) (aa (vB (decide (c>=0))) (af ?_)))
 obtain rfl:=ae a
 exact aC (QY hsF (.inr rfl) [(vB (decide (c>=0)))] ⟨rfl,trivial⟩ rfl rfl rfl)
theorem AO {t:ByteArray} {g:Int} {q:Int} {e:Log_} {h:(List ByteArray)} {r:Int} (a:lN t g q e h=some r) :
  FnM Tryz.prog 50 [(vS t),(vI g),(vI q),(.d (.agg (Log_.enc e))),(vL eS h)] [] (vI r) []:=by
 refine FnM.of_wH ⟨Tryz.prog,36,[],[]⟩ rfl Tryz.func50 rfl rfl (lb_ rfl) (by kernel_rfl) ?_
 unfold lN at a
 refine ai (ib 0 (.inl rfl) (Log_.v e) rfl rfl wz (λs=>aa (vI 0) (af (ak (ai (aa (vS t) ?_))))))
 obtain ⟨G,B,a⟩:=bind_some a
 refine aB (qB B) rfl hb63 rfl rfl rfl rfl wz (aa (vB (!G)) (af ?_))
 rcases aj a with⟨n,a⟩|⟨n,a⟩
 ·refine ay rfl n (ai (aa (vI 3) (af ?_)))
  obtain rfl:=ae a
  exact aC (aN [(vI 3)] ⟨rfl,trivial⟩)
 ·refine ax rfl n (av (ak (ak ?_)))
  obtain ⟨I,b,a⟩:=bind_some a
  refine aR [(4,(vL eS h)),(8,(.ref s 0 0)),(22,(vB I))] [(s,some (.cells 6 (Log_.v e)))] ?_ ?_
  ·refine au (aa (vI g) ?_)
   obtain ⟨K,w,b⟩:=bind_some b
   refine aB (bf w) rfl qc rfl rfl rfl rfl wz ?_
   rcases aj b with⟨i,b⟩|⟨i,b⟩
   ·refine aH rfl i wz (ah (ah (ah (ah (aa (vB true) (af ?_))))))
    obtain rfl:=ae b
    exact cu
   ·refine aH rfl i wz (aL (vI q) wa rfl (aL (vI g) wa rfl (aL (vI (w64 (g-1))) wa rfl ?_)))
    obtain ⟨C,x,b⟩:=bind_some b
    refine aB (bf x) rfl qc rfl rfl rfl rfl wa (aa (vB C) (af ?_))
    obtain rfl:=ae b
    exact cu
  ·rintro ⟨⟩ _ H u o p
   refine aO _ o p ?_
   rcases aj a with⟨j,a⟩|⟨j,a⟩
   ·refine ay rfl j (ai (aa (vI 1) (af ?_)))
    obtain rfl:=ae a
    exact aC (aN [(vI 1)] ⟨rfl,trivial⟩)
   ·refine ax rfl j (av (ak (ai (aI 0 0 il ft lw rQ rfl rfl (.d (.agg (Log_.enc e))) rfl wz ?_))))
    obtain ⟨f,y,a⟩:=bind_some a
    refine aB (xB y) rfl hb62 rfl rfl rfl rfl wz (aa (vI f) (af (ai (aa (vI f) (aa (vB (f != 0)) (af ?_))))))
    rcases aj a with⟨k,a⟩|⟨k,a⟩
    ·refine ay rfl k (ai (aa (vI f) (aa (vI f) (af ?_))))
     obtain rfl:=ae a
     exact aC (aN [(vI f)] ⟨rfl,trivial⟩)
    ·refine ax rfl k (av (ak (ak ?_)))
     obtain ⟨J,c,a⟩:=bind_some a
     refine aR [(35,(vB J))] [(s,some (.cells 6 (Log_.v e)))] ?_ ?_
     ·refine au (aK GY rfl 5 rfl wz (aI 0 0 il ft sz9 ag9 rfl rfl (vS e.Sum) rfl wz ?_))
      obtain ⟨E,z,c⟩:=bind_some c
      refine aB (qB z) rfl hb63 rfl rfl rfl rfl wz (aa (vB (!E)) ?_)
      rcases aj c with⟨l,c⟩|⟨l,c⟩
      ·refine aH rfl l wz (ah (ah (aa (vB true) (af ?_))))
       obtain rfl:=ae c
       exact cu
      ·refine aH rfl l wz (aL (vL eS h) wa rfl ?_)
       obtain ⟨F,A,c⟩:=bind_some c
       refine aB (pY (gid:=81) (caps:=[]) (Sin:=[]) (λ_ _ h_=>yT h_) hb81 ⟨rfl,rfl⟩ (by kernel_rfl) (SV (by kernel_rfl)) (Qu (by kernel_rfl)) A) rfl hb80 rfl rfl rfl rfl wa (aa (vB F) (af ?_))
       obtain rfl:=ae c
       exact cu
     ·rintro ⟨⟩ _ H u o p
      refine aO _ o p ?_
      rcases aj a with⟨m,a⟩|⟨m,a⟩
      ·refine ay rfl m (ai (aa (vI 3) (af ?_)))
       obtain rfl:=ae a
       exact aC (aN [(vI 3)] ⟨rfl,trivial⟩)
      ·refine ax rfl m (av (ai (aa (vI 0) (af ?_))))
       obtain rfl:=ae a
       exact aC (aN [(vI 0)] ⟨rfl,trivial⟩)
theorem FY {f:ByteArray} {o:Int} {n:Int} {h:Log_} {p:(List ByteArray)} {r:Bool×Int} (c:pz f o n h p=some r) :
  FnM Tryz.prog 18 [(vS f),(vI o),(vI n),(.d (.agg (Log_.enc h))),(vL eS p)] [] (.tup [(vB r.1),(vI r.2)]) []:=by
 refine FnM.of_wH ⟨Tryz.prog,62,[],[]⟩ rfl Tryz.func18 rfl rfl (lb_ rfl) (by kernel_rfl) ?_
 unfold pz at c
 refine ai (ib 0 (.inl rfl) (Log_.v h) rfl rfl wz (λA=>aa (vB false) (aa (vI 0) (af (ak (ai (aa (vS f) (aa (vI o) (aa (vI n) (aI 0 0 il ft lw rQ rfl rfl (.d (.agg (Log_.enc h))) rfl wz (aa (vL eS p) ?_)))))))))))
 obtain ⟨i,M,c⟩:=bind_some c
 refine aB (AO M) rfl hb50 rfl rfl rfl rfl wz (aa (vI i) (af (ai (aa (vI i) (aa (vB (i != 0)) (af ?_))))))
 rcases aj c with⟨y,c⟩|⟨y,c⟩
 ·refine ay rfl y (ai (aa (vI i) (aa (vB false) (aa (vI i) (af ?_)))))
  obtain rfl:=ae c
  exact aC (aN [(vB false),(vI i)] ⟨rfl,⟨rfl,trivial⟩⟩)
 ·refine ax rfl y (av (ai (aI 0 0 il ft lw rQ rfl rfl (.d (.agg (Log_.enc h))) rfl wz ?_)))
  obtain ⟨C,J,c⟩:=bind_some c
  refine aB (BS J) rfl hb51 rfl rfl rfl rfl wz (aa (vS C) (af (ak ?_)))
  obtain ⟨R,z,c⟩:=bind_some c
  obtain ⟨Q,z⟩:=bv z
  refine cB (λ(a:Int×Int×(List ByteArray)×ByteArray)=>[(0,(vS f)),(4,(vL eS a.2.2.1)),(13,(vS a.2.2.2))]) (λ(a:Int×Int×(List ByteArray)×ByteArray)=>[(A,some (.cells 6 (Log_.v h)))]) (λ(m:Nat)=>(λ(a:Int×Int×(List ByteArray)×ByteArray)=>[(0,(vS f)),(1,(vI a.1)),(2,(vI a.2.1)),(4,(vL eS a.2.2.1)),(13,(vS a.2.2.2))])) (λs=>eY s) R Q (o,n,p,C) z rfl (aG rfl) ?_ ?_
  ·rintro ⟨m,a⟩ g
   dsimp only at g
   cases m with
   | zero=>cases g
   | succ m =>
    obtain ⟨Y,b,g⟩:=bind_some g
    unfold eY at b
    refine ak (ai (aa (vI a.1) (aa (vB (decide (a.1>1))) (af ?_))))
    rcases aj b with⟨q,b⟩|⟨q,b⟩
    ·refine ay rfl q (av (ak (aM (ak (ai (aa (vI a.2.1) (aa (vI (vM .i64 a.2.1 1)) (aa (vI a.1) (aa (vB (decide ((vM .i64 a.2.1 1)>=a.1))) (af ?_))))))))))
     rcases aj b with⟨t,b⟩|⟨t,b⟩
     ·refine ay rfl t (aU (au (aa (vI a.2.1) (aa (vI (w64 (a.2.1.tdiv 2))) (aa (vI a.1) (aa (vI (w64 (a.1+1))) (aa (vI (w64 ((w64 (a.1+1)).tdiv 2))) (aa (vI (w64 (a.2.1.tdiv 2))) (aa (vI (w64 ((w64 (a.1+1)).tdiv 2))) (af ?_))))))))))
      obtain rfl:=ae b
      exact aV (m,((w64 ((w64 (a.1+1)).tdiv 2)),(w64 (a.2.1.tdiv 2)),a.2.2.1,a.2.2.2)) g (ls_ _) rfl (aG rfl)
     ·refine ax rfl t (av (ak (ai (aa (vL eS a.2.2.1) (bA vk rfl wz (aa (vB ((a.2.2.1.length:Int)==0)) (af ?_)))))))
      rcases aj b with⟨u,b⟩|⟨u,b⟩
      ·refine ay rfl u (ai (aa (vB false) (aa (vI 0) (af ?_))))
       obtain rfl:=ae b
       obtain rfl:=ae g
       obtain rfl:=ae c
       exact aC (aN [(vB false),(vI 0)] ⟨rfl,⟨rfl,trivial⟩⟩)
      ·refine ax rfl u (av (ak (ai (aa (vI a.2.1) (aa (vI (a.2.1.tmod 2)) (aa (vB ((a.2.1.tmod 2)==1)) (af ?_)))))))
       obtain ⟨F,e,b⟩:=bind_some b
       refine aR [(0,(vS f)),(1,(vI a.1)),(2,(vI a.2.1)),(4,(vL eS a.2.2.1)),(13,(vS F))] [(A,some (.cells 6 (Log_.v h)))] ?_ ?_
       ·rcases aj e with⟨w,e⟩|⟨w,e⟩
        ·refine ay rfl w (au (aa (vL eS a.2.2.1) ?_))
         obtain ⟨W,N,e⟩:=bind_some e
         refine dC rF rfl rfl N rfl wz (bE sz9 ag9 rfl (vS W) rfl wz (aa (vS a.2.2.2) ?_))
         obtain ⟨T,K,e⟩:=bind_some e
         refine aB (xY K) rfl hb52 rfl rfl rfl rfl wz (aa (vS T) (af ?_))
         obtain rfl:=ae e
         exact cu
        ·refine ax rfl w (au (aa (vS a.2.2.2) (aa (vL eS a.2.2.1) ?_)))
         obtain ⟨X,O,e⟩:=bind_some e
         refine dC rF rfl rfl O rfl wz (bE sz9 ag9 rfl (vS X) rfl wz ?_)
         obtain ⟨U,L,e⟩:=bind_some e
         refine aB (xY L) rfl hb52 rfl rfl rfl rfl wz (aa (vS U) (af ?_))
         obtain rfl:=ae e
         exact cu
       ·rintro ⟨⟩ _ E B k l
        refine aO _ k l (au (aa (vL eS a.2.2.1) ?_))
        obtain ⟨H,P,b⟩:=bind_some b
        refine FZ vk sz9 (λ_=>rfl) rfl rfl P wz (aa (vL eS H) (af (au (aa (vI a.2.1) (aa (vI (w64 (a.2.1.tdiv 2))) (aa (vI a.1) (aa (vI (w64 (a.1+1))) (aa (vI (w64 ((w64 (a.1+1)).tdiv 2))) (aa (vI (w64 (a.2.1.tdiv 2))) (aa (vI (w64 ((w64 (a.1+1)).tdiv 2))) (af ?_)))))))))))
        obtain rfl:=ae b
        exact aV (m,((w64 ((w64 (a.1+1)).tdiv 2)),(w64 (a.2.1.tdiv 2)),H,F)) g (ls_ _) rfl (aG rfl)
    ·refine ax rfl q (aU ?_)
     obtain rfl:=ae b
     obtain rfl:=ae g
     exact aW ((a.1,a.2.1,a.2.2.1,a.2.2.2)) rfl rfl (aG rfl)
  ·rintro a I E B k l
   subst I
   refine aO _ k l (ak ?_)
   obtain ⟨G,j,c⟩:=bind_some c
   refine aR [(10,(vB G)),(11,(vI 0))] [(A,some (.cells 6 (Log_.v h)))] ?_ ?_
   ·refine au (aa (vL eS a.2.2.1) (bA vk rfl wz (aa (vB ((a.2.2.1.length:Int)==0)) ?_)))
    rcases aj j with⟨x,j⟩|⟨x,j⟩
    ·refine aH rfl x wz (aL (vS a.2.2.2) wa rfl (aL (vS f) wa rfl (aL (vB (sEq a.2.2.2 f)) wa rfl (aa (vB (sEq a.2.2.2 f)) (aa (vB (sEq a.2.2.2 f)) (aa (vI 0) (af ?_)))))))
     obtain rfl:=ae j
     exact cu
    ·refine aH rfl x wz (ah (ah (ah (aa (vB false) (aa (vB false) (aa (vI 0) (af ?_)))))))
     obtain rfl:=ae j
     exact cu
   ·rintro ⟨⟩ _ E B k l
    refine aO _ k l ?_
    obtain rfl:=ae c
    exact aC (aN [(vB G),(vI 0)] ⟨rfl,⟨rfl,trivial⟩⟩)
theorem sF {s1_1:(List Log_)} {s2_2:(List Log_)} {r:Bool} (b:fq s1_1 s2_2=some r) :
  FnM Tryz.prog 19 [(vL Log_.enc s1_1),(vL Log_.enc s2_2)] [] (vB r) []:=by
 refine FnM.of_wH ⟨Tryz.prog,26,[],[]⟩ rfl Tryz.func19 rfl rfl (lb_ rfl) (by kernel_rfl) ?_
 unfold fq at b
 refine ai (aa (vB false) (af (ak (ai (aa (vL Log_.enc s1_1) (bA uK rfl wz (aa (vL Log_.enc s2_2) (bA uK rfl wz (aa (vB ((s1_1.length:Int) != (s2_2.length:Int))) (af ?_))))))))))
 rcases aj b with⟨l,b⟩|⟨l,b⟩
 ·refine ay rfl l (ai (aa (vB false) (af ?_)))
  obtain rfl:=ae b
  exact aC (aN [(vB false)] ⟨rfl,trivial⟩)
 ·refine ax rfl l (av (ak (ai (aa (vL Log_.enc s1_1) (bA uK rfl wz (aa (vI 0) (af ?_)))))))
  obtain ⟨v,m,b⟩:=bind_some b
  obtain ⟨o,m⟩:=aY m
  refine bN (λ(i:Unit)=>[]) (λ(i:Unit)=>[]) (λ(a:Nat)=>(λ(i:Unit)=>[(0,(vL Log_.enc s1_1)),(1,(vL Log_.enc s2_2)),(12,(vI (s1_1.length:Int))),(13,(vI (a:Int)))])) (λk x s=>dP s2_2 k x s) v s1_1 () m rfl (aG rfl) ?_ ?_
  ·rintro ⟨a,n,i⟩ ⟨h,g⟩
   dsimp only at h g
   cases n with
   | nil =>
    obtain rfl:=ae h
    refine ai (aa (vB (decide ((a:Int)<(s1_1.length:Int)))) (af ?_))
    refine ak (ax rfl (drop_nil g) (aU ?_))
    exact aW (i) rfl rfl (aG rfl)
   | cons e n =>
    obtain ⟨y,c,h⟩:=bind_some h
    refine ai (aa (vB (decide ((a:Int)<(s1_1.length:Int)))) (af ?_))
    refine ak (ay rfl (bu g) (av ?_))
    unfold dP at c
    refine ak (aM (ai (aa (vI (a:Int)) (aa (vI (a:Int)) (af (ak (bg (aa (vL Log_.enc s1_1) (aa (vI (a:Int)) (dC sG rfl rfl (bI g) rfl wz (bE lw rQ rfl (.d (.agg (Log_.enc e))) rfl wz (aa (vL Log_.enc s2_2) (aa (vI (a:Int)) ?_)))))))))))))
    obtain ⟨f,u,c⟩:=bind_some c
    refine dC sG rfl rfl u rfl wz (bE lw rQ rfl (.d (.agg (Log_.enc f))) rfl wz (aL (vB (!((e.Player.toList==f.Player.toList)&&((e.Item.toList==f.Item.toList)&&((e.No==f.No)&&((e.Clock==f.Clock)&&((e.Long==f.Long)&&((e.Sum.toList==f.Sum.toList)&&true)))))))) wz (by kernel_rfl) (af ?_)))
    rcases aj c with⟨j,c⟩|⟨j,c⟩
    ·refine ay rfl j (ai (aa (vB false) (af ?_)))
     obtain rfl:=ae c
     obtain rfl:=ae h
     obtain rfl:=ae b
     exact aC (aN [(vB false)] ⟨rfl,trivial⟩)
    ·refine ax rfl j (av (au (dH (bz g o) wz rfl (aa (vI ((a+1:Nat):Int)) (af ?_)))))
     obtain rfl:=ae c
     exact aV (a+1,n,()) ⟨h,aX g⟩ (ls_ _) rfl (aG rfl)
  ·rintro i p z w q t
   subst p
   refine aO _ q t (ai (aa (vB true) (af ?_)))
   obtain rfl:=ae b
   exact aC (aN [(vB true)] ⟨rfl,trivial⟩)
theorem ru {s1_1:(List Beat)} {s2_2:(List Beat)} {r:Bool} (b:d9 s1_1 s2_2=some r) :
  FnM Tryz.prog 20 [(vL Beat.enc s1_1),(vL Beat.enc s2_2)] [] (vB r) []:=by
 refine FnM.of_wH ⟨Tryz.prog,26,[],[]⟩ rfl Tryz.func20 rfl rfl (lb_ rfl) (by kernel_rfl) ?_
 unfold d9 at b
 refine ai (aa (vB false) (af (ak (ai (aa (vL Beat.enc s1_1) (bA QN rfl wz (aa (vL Beat.enc s2_2) (bA QN rfl wz (aa (vB ((s1_1.length:Int) != (s2_2.length:Int))) (af ?_))))))))))
 rcases aj b with⟨l,b⟩|⟨l,b⟩
 ·refine ay rfl l (ai (aa (vB false) (af ?_)))
  obtain rfl:=ae b
  exact aC (aN [(vB false)] ⟨rfl,trivial⟩)
 ·refine ax rfl l (av (ak (ai (aa (vL Beat.enc s1_1) (bA QN rfl wz (aa (vI 0) (af ?_)))))))
  obtain ⟨v,m,b⟩:=bind_some b
  obtain ⟨o,m⟩:=aY m
  refine bN (λ(g:Unit)=>[]) (λ(g:Unit)=>[]) (λ(a:Nat)=>(λ(g:Unit)=>[(0,(vL Beat.enc s1_1)),(1,(vL Beat.enc s2_2)),(12,(vI (s1_1.length:Int))),(13,(vI (a:Int)))])) (λk x s=>dE s2_2 k x s) v s1_1 () m rfl (aG rfl) ?_ ?_
  ·rintro ⟨a,n,g⟩ ⟨f,e⟩
   dsimp only at f e
   cases n with
   | nil =>
    obtain rfl:=ae f
    refine ai (aa (vB (decide ((a:Int)<(s1_1.length:Int)))) (af ?_))
    refine ak (ax rfl (drop_nil e) (aU ?_))
    exact aW (g) rfl rfl (aG rfl)
   | cons h n =>
    obtain ⟨y,c,f⟩:=bind_some f
    refine ai (aa (vB (decide ((a:Int)<(s1_1.length:Int)))) (af ?_))
    refine ak (ay rfl (bu e) (av ?_))
    unfold dE at c
    refine ak (aM (ai (aa (vI (a:Int)) (aa (vI (a:Int)) (af (ak (bg (aa (vL Beat.enc s1_1) (aa (vI (a:Int)) (dC K3 rfl rfl (bI e) rfl wz (bE K9 Q9 rfl (.d (.agg (Beat.enc h))) rfl wz (aa (vL Beat.enc s2_2) (aa (vI (a:Int)) ?_)))))))))))))
    obtain ⟨i,u,c⟩:=bind_some c
    refine dC K3 rfl rfl u rfl wz (bE K9 Q9 rfl (.d (.agg (Beat.enc i))) rfl wz (aL (vB (!((h.Player.toList==i.Player.toList)&&((h.At==i.At)&&((h.Clock==i.Clock)&&true))))) wz (by kernel_rfl) (af ?_)))
    rcases aj c with⟨j,c⟩|⟨j,c⟩
    ·refine ay rfl j (ai (aa (vB false) (af ?_)))
     obtain rfl:=ae c
     obtain rfl:=ae f
     obtain rfl:=ae b
     exact aC (aN [(vB false)] ⟨rfl,trivial⟩)
    ·refine ax rfl j (av (au (dH (bz e o) wz rfl (aa (vI ((a+1:Nat):Int)) (af ?_)))))
     obtain rfl:=ae c
     exact aV (a+1,n,()) ⟨f,aX e⟩ (ls_ _) rfl (aG rfl)
  ·rintro g p z w q t
   subst p
   refine aO _ q t (ai (aa (vB true) (af ?_)))
   obtain rfl:=ae b
   exact aC (aN [(vB true)] ⟨rfl,trivial⟩)
theorem rA {s1_1:(List Play)} {s2_2:(List Play)} {r:Bool} (b:ek s1_1 s2_2=some r) :
  FnM Tryz.prog 21 [(vL Play.enc s1_1),(vL Play.enc s2_2)] [] (vB r) []:=by
 refine FnM.of_wH ⟨Tryz.prog,26,[],[]⟩ rfl Tryz.func21 rfl rfl (lb_ rfl) (by kernel_rfl) ?_
 unfold ek at b
 refine ai (aa (vB false) (af (ak (ai (aa (vL Play.enc s1_1) (bA Je rfl wz (aa (vL Play.enc s2_2) (bA Je rfl wz (aa (vB ((s1_1.length:Int) != (s2_2.length:Int))) (af ?_))))))))))
 rcases aj b with⟨l,b⟩|⟨l,b⟩
 ·refine ay rfl l (ai (aa (vB false) (af ?_)))
  obtain rfl:=ae b
  exact aC (aN [(vB false)] ⟨rfl,trivial⟩)
 ·refine ax rfl l (av (ak (ai (aa (vL Play.enc s1_1) (bA Je rfl wz (aa (vI 0) (af ?_)))))))
  obtain ⟨v,m,b⟩:=bind_some b
  obtain ⟨o,m⟩:=aY m
  refine bN (λ(g:Unit)=>[]) (λ(g:Unit)=>[]) (λ(a:Nat)=>(λ(g:Unit)=>[(0,(vL Play.enc s1_1)),(1,(vL Play.enc s2_2)),(12,(vI (s1_1.length:Int))),(13,(vI (a:Int)))])) (λk x s=>dF s2_2 k x s) v s1_1 () m rfl (aG rfl) ?_ ?_
  ·rintro ⟨a,n,g⟩ ⟨f,e⟩
   dsimp only at f e
   cases n with
   | nil =>
    obtain rfl:=ae f
    refine ai (aa (vB (decide ((a:Int)<(s1_1.length:Int)))) (af ?_))
    refine ak (ax rfl (drop_nil e) (aU ?_))
    exact aW (g) rfl rfl (aG rfl)
   | cons h n =>
    obtain ⟨y,c,f⟩:=bind_some f
    refine ai (aa (vB (decide ((a:Int)<(s1_1.length:Int)))) (af ?_))
    refine ak (ay rfl (bu e) (av ?_))
    unfold dF at c
    refine ak (aM (ai (aa (vI (a:Int)) (aa (vI (a:Int)) (af (ak (bg (aa (vL Play.enc s1_1) (aa (vI (a:Int)) (dC IM rfl rfl (bI e) rfl wz (bE zV Jk rfl (.d (.agg (Play.enc h))) rfl wz (aa (vL Play.enc s2_2) (aa (vI (a:Int)) ?_)))))))))))))
    obtain ⟨i,u,c⟩:=bind_some c
    refine dC IM rfl rfl u rfl wz (bE zV Jk rfl (.d (.agg (Play.enc i))) rfl wz (aL (vB (!((h.Player.toList==i.Player.toList)&&((h.Item.toList==i.Item.toList)&&((h.At==i.At)&&((h.Long==i.Long)&&true)))))) wz (by kernel_rfl) (af ?_)))
    rcases aj c with⟨j,c⟩|⟨j,c⟩
    ·refine ay rfl j (ai (aa (vB false) (af ?_)))
     obtain rfl:=ae c
     obtain rfl:=ae f
     obtain rfl:=ae b
     exact aC (aN [(vB false)] ⟨rfl,trivial⟩)
    ·refine ax rfl j (av (au (dH (bz e o) wz rfl (aa (vI ((a+1:Nat):Int)) (af ?_)))))
     obtain rfl:=ae c
     exact aV (a+1,n,()) ⟨f,aX e⟩ (ls_ _) rfl (aG rfl)
  ·rintro g p z w q t
   subst p
   refine aO _ q t (ai (aa (vB true) (af ?_)))
   obtain rfl:=ae b
   exact aC (aN [(vB true)] ⟨rfl,trivial⟩)
theorem uA {s1_1:(List ByteArray)} {s2_2:(List ByteArray)} {r:Bool} (b:fT s1_1 s2_2=some r) :
  FnM Tryz.prog 22 [(vL eS s1_1),(vL eS s2_2)] [] (vB r) []:=by
 refine FnM.of_wH ⟨Tryz.prog,26,[],[]⟩ rfl Tryz.func22 rfl rfl (lb_ rfl) (by kernel_rfl) ?_
 unfold fT at b
 refine ai (aa (vB false) (af (ak (ai (aa (vL eS s1_1) (bA vk rfl wz (aa (vL eS s2_2) (bA vk rfl wz (aa (vB ((s1_1.length:Int) != (s2_2.length:Int))) (af ?_))))))))))
 rcases aj b with⟨h,b⟩|⟨h,b⟩
 ·refine ay rfl h (ai (aa (vB false) (af ?_)))
  obtain rfl:=ae b
  exact aC (aN [(vB false)] ⟨rfl,trivial⟩)
 ·refine ax rfl h (av (ak (ai (aa (vL eS s1_1) (bA vk rfl wz (aa (vI 0) (af ?_)))))))
  obtain ⟨u,i,b⟩:=bind_some b
  obtain ⟨n,i⟩:=aY i
  refine bN (λ(f:Unit)=>[]) (λ(f:Unit)=>[]) (λ(a:Nat)=>(λ(f:Unit)=>[(0,(vL eS s1_1)),(1,(vL eS s2_2)),(12,(vI (s1_1.length:Int))),(13,(vI (a:Int)))])) (λk x s=>eP s2_2 k x s) u s1_1 () i rfl (aG rfl) ?_ ?_
  ·rintro ⟨a,j,f⟩ ⟨e,d⟩
   dsimp only at e d
   cases j with
   | nil =>
    obtain rfl:=ae e
    refine ai (aa (vB (decide ((a:Int)<(s1_1.length:Int)))) (af ?_))
    refine ak (ax rfl (drop_nil d) (aU ?_))
    exact aW (f) rfl rfl (aG rfl)
   | cons l j =>
    obtain ⟨w,c,e⟩:=bind_some e
    refine ai (aa (vB (decide ((a:Int)<(s1_1.length:Int)))) (af ?_))
    refine ak (ay rfl (bu d) (av ?_))
    unfold eP at c
    refine ak (aM (ai (aa (vI (a:Int)) (aa (vI (a:Int)) (af (ak (bg (aa (vL eS s1_1) (aa (vI (a:Int)) (dC rF rfl rfl (bI d) rfl wz (bE sz9 ag9 rfl (vS l) rfl wz (aa (vL eS s2_2) (aa (vI (a:Int)) ?_)))))))))))))
    obtain ⟨m,t,c⟩:=bind_some c
    refine dC rF rfl rfl t rfl wz (bE sz9 ag9 rfl (vS m) rfl wz (aa (vB (sNe l m)) (af ?_)))
    rcases aj c with⟨g,c⟩|⟨g,c⟩
    ·refine ay rfl g (ai (aa (vB false) (af ?_)))
     obtain rfl:=ae c
     obtain rfl:=ae e
     obtain rfl:=ae b
     exact aC (aN [(vB false)] ⟨rfl,trivial⟩)
    ·refine ax rfl g (av (au (dH (bz d n) wz rfl (aa (vI ((a+1:Nat):Int)) (af ?_)))))
     obtain rfl:=ae c
     exact aV (a+1,j,()) ⟨e,aX d⟩ (ls_ _) rfl (aG rfl)
  ·rintro f o y v p q
   subst o
   refine aO _ p q (ai (aa (vB true) (af ?_)))
   obtain rfl:=ae b
   exact aC (aN [(vB true)] ⟨rfl,trivial⟩)
theorem u7 {b:Rect} {r:Int} (a:pq b=some r) :
  FnM Tryz.prog 130 [(.d (.agg (Rect.enc b)))] [] (vI r) []:=by
 refine FnM.of_wH ⟨Tryz.prog,25,[],[]⟩ rfl Tryz.func130 rfl rfl (lb_ rfl) (by kernel_rfl) ?_
 unfold pq at a
 refine ai (ib 0 (.inl rfl) (Rect.v b) rfl rfl wz (λl=>aa (vI 0) (af (ak (ak ?_)))))
 obtain ⟨x,e,a⟩:=bind_some a
 refine aR [(1,(.ref l 0 0)),(10,(vB x))] [(l,some (.cells 4 (Rect.v b)))] ?_ ?_
 ·refine au (aK Bl rfl 0 rfl wz (aI 0 0 il ft sz3 ag3 rfl rfl (vI b.X) rfl wz ?_))
  obtain ⟨z,p,e⟩:=bind_some e
  refine aB (bf p) rfl qc rfl rfl rfl rfl wz ?_
  rcases aj e with⟨i,e⟩|⟨i,e⟩
  ·refine aH rfl i wz (ah (ah (ah (aa (vB true) (af ?_)))))
   obtain rfl:=ae e
   exact cu
  ·refine aH rfl i wz (aK xz rfl 1 rfl wa (aI 0 0 il ft sz3 ag3 rfl rfl (vI b.Y) rfl wa ?_))
   obtain ⟨t,q,e⟩:=bind_some e
   refine aB (bf q) rfl qc rfl rfl rfl rfl wa (aa (vB t) (af ?_))
   obtain rfl:=ae e
   exact cu
 ·rintro ⟨⟩ _ u m j k
  refine aO _ j k ?_
  rcases aj a with⟨f,a⟩|⟨f,a⟩
  ·refine ay rfl f (ai (aa (vI 1) (af ?_)))
   obtain rfl:=ae a
   exact aC (aN [(vI 1)] ⟨rfl,trivial⟩)
  ·refine ax rfl f (av (ak (ak ?_)))
   obtain ⟨w,c,a⟩:=bind_some a
   refine aR [(24,(vB w))] [(l,some (.cells 4 (Rect.v b)))] ?_ ?_
   ·refine au (aK Gp rfl 2 rfl wz (aI 0 0 il ft sz3 ag3 rfl rfl (vI b.W) rfl wz (aK Bl rfl 0 rfl wz (aI 0 0 il ft sz3 ag3 rfl rfl (vI b.X) rfl wz (aa (vI (w64 (100000-b.X))) ?_)))))
    obtain ⟨y,n,c⟩:=bind_some c
    refine aB (bf n) rfl qc rfl rfl rfl rfl wz ?_
    rcases aj c with⟨g,c⟩|⟨g,c⟩
    ·refine aH rfl g wz (ah (ah (ah (ah (ah (ah (aa (vB true) (af ?_))))))))
     obtain rfl:=ae c
     exact cu
    ·refine aH rfl g wz (aK Dl rfl 3 rfl wa (aI 0 0 il ft sz3 ag3 rfl rfl (vI b.H) rfl wa (aK xz rfl 1 rfl wa (aI 0 0 il ft sz3 ag3 rfl rfl (vI b.Y) rfl wa (aL (vI (w64 (100000-b.Y))) wa rfl ?_)))))
     obtain ⟨s,o,c⟩:=bind_some c
     refine aB (bf o) rfl qc rfl rfl rfl rfl wa (aa (vB s) (af ?_))
     obtain rfl:=ae c
     exact cu
   ·rintro ⟨⟩ _ u m j k
    refine aO _ j k ?_
    rcases aj a with⟨h,a⟩|⟨h,a⟩
    ·refine ay rfl h (ai (aa (vI 1) (af ?_)))
     obtain rfl:=ae a
     exact aC (aN [(vI 1)] ⟨rfl,trivial⟩)
    ·refine ax rfl h (av (ai (aa (vI 0) (af ?_))))
     obtain rfl:=ae a
     exact aC (aN [(vI 0)] ⟨rfl,trivial⟩)
theorem Am {a:(List Rect)} {r:Int} (b:om a=some r) :
  FnM Tryz.prog 83 [(vL Rect.enc a)] [] (vI r) []:=by
 refine FnM.of_wH ⟨Tryz.prog,21,[],[]⟩ rfl Tryz.func83 rfl rfl (lb_ rfl) (by kernel_rfl) ?_
 unfold om at b
 refine ai (aa (vI 0) (af (ak (ai (aa (vL Rect.enc a) (bA yo rfl wz (aa (vB (decide ((a.length:Int)>2000))) (af ?_))))))))
 rcases aj b with⟨l,b⟩|⟨l,b⟩
 ·refine ay rfl l (ai (aa (vI 2) (af ?_)))
  obtain rfl:=ae b
  exact aC (aN [(vI 2)] ⟨rfl,trivial⟩)
 ·refine ax rfl l (av (ak (ai (aa (vL Rect.enc a) (bA yo rfl wz (aa (vI 0) (af ?_)))))))
  obtain ⟨y,m,b⟩:=bind_some b
  obtain ⟨p,m⟩:=aY m
  refine bN (λ(i:Unit)=>[]) (λ(i:Unit)=>[]) (λ(g:Nat)=>(λ(i:Unit)=>[(9,(vL Rect.enc a)),(10,(vI (a.length:Int))),(11,(vI (g:Int)))])) (λk x s=>oH k x s) y a () m rfl (aG rfl) ?_ ?_
  ·rintro ⟨g,n,i⟩ ⟨f,e⟩
   dsimp only at f e
   cases n with
   | nil =>
    obtain rfl:=ae f
    refine ai (aa (vB (decide ((g:Int)<(a.length:Int)))) (af ?_))
    refine ak (ax rfl (drop_nil e) (aU ?_))
    exact aW (i) rfl rfl (aG rfl)
   | cons o n =>
    obtain ⟨A,c,f⟩:=bind_some f
    refine ai (aa (vB (decide ((g:Int)<(a.length:Int)))) (af ?_))
    refine ak (ay rfl (bu e) (av ?_))
    unfold oH at c
    refine ak (aM (ai (dC DR rfl rfl (bI e) rfl wz (bE tV Fz rfl (.d (.agg (Rect.enc o))) rfl wz (dA 0 (.inl rfl) L6 rfl wz (λB=>jw 0 il ft 0 tV rfl rfl (Rect.v o) rfl wz (af (ai (aI 0 0 il ft tV Fz rfl rfl (.d (.agg (Rect.enc o))) rfl wz ?_)))))))))
    obtain ⟨h,w,c⟩:=bind_some c
    refine aB (u7 w) rfl hb130 rfl rfl rfl rfl wz (aa (vI h) (af (ai (aa (vI h) (aa (vB (h != 0)) (af ?_))))))
    rcases aj c with⟨j,c⟩|⟨j,c⟩
    ·refine ay rfl j (ai (aa (vI h) (aa (vI h) (af ?_))))
     obtain rfl:=ae c
     obtain rfl:=ae f
     obtain rfl:=ae b
     exact aC (aN [(vI h)] ⟨rfl,trivial⟩)
    ·refine ax rfl j (av (au (dH (bz e p) wz rfl (aa (vI ((g+1:Nat):Int)) (af ?_)))))
     obtain rfl:=ae c
     exact aV (g+1,n,()) ⟨f,aX e⟩ (ls_ _) rfl (aG rfl)
  ·rintro i q C z t u
   subst q
   refine aO _ t u (ai (aa (vI 0) (af ?_)))
   obtain rfl:=ae b
   exact aC (aN [(vI 0)] ⟨rfl,trivial⟩)
theorem qL {b:Int} {r:Bool} (a:jy b=some r) :
  FnM Tryz.prog 174 [.nil,(vI b)] [] (kV r (aA 0) 4 ([]:List Rect)) (kO r 4):=by
 refine FnM.of_wH ⟨Tryz.prog,27,[],[]⟩ rfl Tryz.func174 rfl rfl (lb_ rfl) (by kernel_rfl) ?_
 unfold jy at a
 refine ai (aa .nil (af (ak (ai (aa (vI b) (aa (vB (decide (b<0))) (af ?_)))))))
 rcases aj a with⟨c,a⟩|⟨c,a⟩
 ·refine ay rfl c (au ?_)
  cases a
 ·refine ax rfl c (av (ak (ai (aa (vI b) (aa .nil (K8 IL rfl wz (aa .nil (Lp yo rfl wz (aa (vI (w64 (0-0))) (aa (vI (w64 (b-(w64 (0-0))))) (aa (vI (w64 (b-(w64 (0-0))))) (af (ai (aa (vI (w64 (b-(w64 (0-0))))) (aa (vB (decide ((w64 (b-(w64 (0-0))))>0))) (af ?_))))))))))))))))
  rcases aj a with⟨d,a⟩|⟨d,a⟩
  ·refine ay rfl d (au (aa .nil (aa .nil (K8 IL rfl wz (aL .nil wz (by kernel_rfl) (aa (vI (w64 (b-(w64 (0-0))))) ?_))))))
   obtain ⟨_,f,a⟩:=bind_some a
   refine UB (enc:=Rect.enc) 0 (.inl rfl) IL (by kernel_rfl) tV L6 rfl (by decide) UI rfl rfl f wz (λe=>aa .nil (Lp yo rfl wz (UE (m:=0) yo tV rfl rfl rfl (Nat.zero_le _) wz (aa (.vs e 4 0 0) (af (ai (aa (.vs e 4 0 0) (aa (.vs e 4 0 0) (af ?_)))))))))
   obtain rfl:=ae a
   exact aC (finK (.inr rfl) 0 rfl rfl)
  ·refine ax rfl d (av (ai (aa .nil (aa .nil (af ?_)))))
   obtain rfl:=ae a
   exact aC (finK0 (.inr rfl) rfl)
theorem qJ {a:(List (List Rect))} {r:(List Rect)} (g:fP a=some r) :
  FnM Tryz.prog 131 [(vL (eL Rect.enc) a)] [] (vL Rect.enc r) []:=by
 refine FnM.of_wH ⟨Tryz.prog,36,[],[]⟩ rfl Tryz.func131 rfl rfl (lb_ rfl) (by kernel_rfl) ?_
 unfold fP at g
 refine ai (aa .nil (af (ai (aa (vI 0) (af (ak (ai (aa (vL (eL Rect.enc) a) (bA un247 rfl wz (aa (vI 0) (af ?_)))))))))))
 obtain ⟨R,z,g⟩:=bind_some g
 obtain ⟨O,z⟩:=aY z
 refine bN (λ(b:Int)=>[(0,(vL (eL Rect.enc) a)),(3,(vI b))]) (λ(b:Int)=>[]) (λ(h:Nat)=>(λ(b:Int)=>[(0,(vL (eL Rect.enc) a)),(3,(vI b)),(9,(vL (eL Rect.enc) a)),(10,(vI (a.length:Int))),(11,(vI (h:Int)))])) (λk x s=>iK k x s) R a 0 z rfl (aG rfl) ?_ ?_
 ·rintro ⟨h,E,b⟩ ⟨o,l⟩
  dsimp only at o l
  cases E with
  | nil =>
   obtain rfl:=ae o
   refine ai (aa (vB (decide ((h:Int)<(a.length:Int)))) (af ?_))
   refine ak (ax rfl (drop_nil l) (aU ?_))
   exact aW (b) rfl rfl (aG rfl)
  | cons e E =>
   obtain ⟨L,w,o⟩:=bind_some o
   refine ai (aa (vB (decide ((h:Int)<(a.length:Int)))) (af ?_))
   refine ak (ay rfl (bu l) (av ?_))
   unfold iK at w
   refine ak (aM (ai (dC Sa rfl rfl (bI l) rfl wz (bE JA Jv rfl (vL Rect.enc e) rfl wz (aa (vL Rect.enc e) (af (ai (aa (vI b) (aa (vL Rect.enc e) (bA yo rfl wz (aa (vI (w64 (b+(e.length:Int)))) (aa (vI (w64 (b+(e.length:Int)))) (af (ai (aa (vI (w64 (b+(e.length:Int)))) (aa (vB (decide ((w64 (b+(e.length:Int)))<0))) (af ?_)))))))))))))))))
   obtain ⟨U,q,w⟩:=bind_some w
   refine aR [(0,(vL (eL Rect.enc) a)),(3,(vI (w64 (b+(e.length:Int))))),(9,(vL (eL Rect.enc) a)),(10,(vI (a.length:Int))),(11,(vI (h:Int)))] [] ?_ ?_
   ·rcases aj q with⟨y,q⟩|⟨y,q⟩
    ·refine ay rfl y (au ?_)
     cases q
    ·refine ax rfl y (av ?_)
     obtain rfl:=ae q
     exact cu
   ·rintro ⟨⟩ _ K G t u
    refine aO _ t u (au (dH (bz l O) wz rfl (aa (vI ((h+1:Nat):Int)) (af ?_))))
    obtain rfl:=ae w
    exact aV (h+1,E,(w64 (b+(e.length:Int)))) ⟨o,aX l⟩ (ls_ _) rfl (aG rfl)
 ·rintro b B K G t u
  subst B
  refine aO _ t u (ai (aa (vI b) ?_))
  obtain ⟨f,P,g⟩:=bind_some g
  refine QA (enc:=Rect.enc) (qL P) rfl hb174 (by kernel_rfl) rfl (by kernel_rfl) wz (λI=>aa (kV f I 4 ([]:List Rect)) (af (ak (ai (aa (vL (eL Rect.enc) a) (bA un247 rfl wz (aa (vI 0) (af ?_))))))))
  obtain ⟨T,A,g⟩:=bind_some g
  obtain ⟨M,A⟩:=aY A
  refine iw (σ:=(List Rect)) (N:=Nm) (λp=>(λ(c:List Rect) (d:Nm)=>([(6,(kV f d 4 c))]:SL_)) p.1 p.2) (λp=>(λ(c:List Rect) (d:Nm)=>([(d,kB f 4 Rect.enc c)]:Hp)) p.1 p.2) (λ(m:Nat)=>(λp=>(λ(c:List Rect) (d:Nm)=>([(6,(kV f d 4 c)),(25,(vL (eL Rect.enc) a)),(26,(vI (a.length:Int))),(27,(vI (m:Int)))]:SL_)) p.1 p.2)) (λk x s=>iO k x s) T a (([]:List Rect),I) A rfl (aG rfl) ?_ ?_
  ·rintro ⟨m,C,c,d⟩ ⟨n,j⟩
   dsimp only at n j
   cases C with
   | nil =>
    obtain rfl:=ae n
    refine ai (aa (vB (decide ((m:Int)<(a.length:Int)))) (af ?_))
    refine ak (ax rfl (drop_nil j) (aU ?_))
    exact aW (c,d) rfl rfl (aG rfl)
   | cons F C =>
    obtain ⟨L,v,n⟩:=bind_some n
    refine ai (aa (vB (decide ((m:Int)<(a.length:Int)))) (af ?_))
    refine ak (ay rfl (bu j) (av ?_))
    unfold iO at v
    refine ak (aM (ai (dC Sa rfl rfl (bI j) rfl wz (bE JA Jv rfl (vL Rect.enc F) rfl wz (aa (vL Rect.enc F) (af (au (aa (kV f d 4 c) (aa (vL Rect.enc F) ?_)))))))))
    obtain ⟨H,Q,v⟩:=bind_some v
    refine Sr 0 il ft (i:=0) IL IL tV L6 rfl (by decide) UI (by decide) (λ_=>rfl) rfl rfl rfl Q wz (λJ=>aa (kV f J 4 H) (af (au (dH (bz j M) wz rfl (aa (vI ((m+1:Nat):Int)) (af ?_))))))
    obtain rfl:=ae v
    exact aV (m+1,C,H,J) ⟨n,aX j⟩ (ls_ _) rfl (aG rfl)
  ·rintro ⟨c,d⟩ B K G t u
   subst B
   refine aO _ t u (ai (aa (kV f d 4 c) (aa (kV f d 4 c) (af (TL 0 rfl (Oy 2 0 rfl rfl (Oy 6 0 rfl rfl (Oy 35 0 rfl rfl ?_))))))))
   obtain rfl:=ae g
   exact aC (aN [(vL Rect.enc c)] ⟨rfl,trivial⟩)
theorem uP {b:(List Int)} {r:(List Int)} (g:gJ b=some r) :
  FnM Tryz.prog 132 [(dV (aA 0) 1 b)] (([]:List Box)++gI 1 eI b) (vL eI r) (([]:List Box).map some++gT b none):=by
 refine FnM.of_wHv ⟨Tryz.prog,61,[],[]⟩ rfl Tryz.func132 rfl rfl (lb_ rfl) (by kernel_rfl) ?_
 unfold gJ at g
 refine ai (aa .nil (af (ak (ai (aa (dV (aA 0) 1 b) (xR Ar rfl wz (aa (vB (decide ((b.length:Int)<2))) (af ?_))))))))
 rcases aj g with⟨w,g⟩|⟨w,g⟩
 ·refine ay rfl w (ai (aa (dV (aA 0) 1 b) (aa (dV (aA 0) 1 b) (af (iq 0 rfl (CP 0 0 rfl rfl (CP 2 0 rfl rfl (CP 6 0 rfl rfl (CP 9 0 rfl rfl (KY (i:=0) rfl ?_))))))))))
  obtain rfl:=ae g
  exact aC (oq (bs:=([]:List Box)) (os:=([]:List Box)) (xs:=b) (o:=none) (.inr rfl) [(vL eI b)] ⟨rfl,trivial⟩ rfl rfl rfl rfl rfl (by kernel_rfl) F5 rfl)
 ·refine ax rfl w (av (ak (ai (aa (vI 1) (af ?_)))))
  obtain ⟨Ã,A,g⟩:=bind_some g
  obtain ⟨Â,A⟩:=bv A
  refine cB (λ(c:Int)=>[(0,(dV (aA 0) 1 b))]) (λ(c:Int)=>[((aA 0),gB 1 eI b)]) (λ(u:Nat)=>(λ(c:Int)=>[(0,(dV (aA 0) 1 b)),(3,(vI c))])) (λs=>fw b s) Ã Â 1 A rfl (aG rfl) ?_ ?_
  ·rintro ⟨u,c⟩ j
   dsimp only at j
   cases u with
   | zero=>cases j
   | succ u =>
    obtain ⟨R,d,j⟩:=bind_some j
    unfold fw at d
    refine ak (ai (aa (vI c) (aa (dV (aA 0) 1 b) (xR Ar rfl wz (aa (vB (decide (c<(b.length:Int)))) (af ?_))))))
    rcases aj d with⟨v,d⟩|⟨v,d⟩
    ·refine ay rfl v (av (ak (aM (ak (bg (aa (dV (aA 0) 1 b) (aa (vI c) ?_)))))))
     obtain ⟨_,K,d⟩:=bind_some d
     refine je pQ rfl rfl (ik K) (dN K) wz ?_
     obtain ⟨G,U,d⟩:=bind_some d
     refine kw 3 0 (.inr (by kernel_rfl)) (λ_ _ ag=>trivial) sz3 ag3 rfl rfl U (vI G) rfl wz (aa (dV (aA 0) 1 b) (aa (vI c) (aa (vI (w64 (c-1))) ?_)))
     obtain ⟨_,L,d⟩:=bind_some d
     refine je pQ rfl rfl (ik L) (dN L) wz ?_
     obtain ⟨H,W,d⟩:=bind_some d
     refine kw 8 0 (.inr (by kernel_rfl)) (λ_ _ ag=>⟨.inl ⟨rfl,rfl⟩,trivial⟩) sz3 ag3 rfl rfl W (vI H) rfl wz (aa (vB (G==H)) (af ?_))
     rcases aj d with⟨x,d⟩|⟨x,d⟩
     ·refine ay rfl x (ai (aa (dV (aA 0) 1 b) (aa (vI c) ?_)))
      obtain ⟨_,h,d⟩:=bind_some d
      replace h:=Tv h
      refine bT (v':=(vV (aA 0) 1 b)) 0 rfl (Du h) (bT (v':=(vV (aA 0) 1 b)) 11 rfl (Du h) (bT (v':=(vV (aA 0) 1 b)) 16 rfl (Du h) (bT (v':=(vV (aA 0) 1 b)) 20 rfl (Du h) (bT (v':=(vV (aA 0) 1 b)) 26 rfl (Du h) (Nh 0 rfl (Gb h) ?_)))))
      obtain ⟨_,T,d⟩:=bind_some d
      refine Dj Ar sz3 rfl rfl T wz (aa (.vs (aA 0) 1 ((c).toNat) (((b.length:Int)).toNat-(c).toNat)) (af (ak (ai (aa (vI 1) (af ?_))))))
      obtain ⟨Ä,B,d⟩:=bind_some d
      obtain ⟨Á,B⟩:=bv B
      refine cB (λ(a:(List Int)×Int×Int)=>[(0,(vV (aA 0) 1 a.1)),(3,(vI a.2.1))]) (λ(a:(List Int)×Int×Int)=>[((aA 0),some (bV 1 eI a.1))]) (λ(t:Nat)=>(λ(a:(List Int)×Int×Int)=>[(0,(vV (aA 0) 1 a.1)),(3,(vI a.2.1)),(4,(.vs (aA 0) 1 ((c).toNat) (((b.length:Int)).toNat-(c).toNat))),(5,(vI a.2.2))])) (λs=>iE b c s) Ä Á (b,c,1) B rfl (aG rfl) ?_ ?_
      ·rintro ⟨t,a⟩ k
       dsimp only at k
       cases t with
       | zero=>cases k
       | succ t =>
        obtain ⟨R,e,k⟩:=bind_some k
        unfold iE at e
        refine ak (ai (aa (vI a.2.2) (aa (.vs (aA 0) 1 ((c).toNat) (((b.length:Int)).toNat-(c).toNat)) (Tz Ar rfl wz (aa (vB (decide (a.2.2<(((((b.length:Int)).toNat-(c).toNat):Nat):Int)))) (af ?_))))))
        rcases aj e with⟨y,e⟩|⟨y,e⟩
        ·refine ay rfl y (av (ak (aM (ak (bg (aa (.vs (aA 0) 1 ((c).toNat) (((b.length:Int)).toNat-(c).toNat)) (aa (vI a.2.2) ?_)))))))
         obtain ⟨_,M,e⟩:=bind_some e
         refine zO pQ rfl rfl (AV M) (wU M) wz ?_
         obtain ⟨I,X,e⟩:=bind_some e
         refine Fy 3 0 (.inr (by kernel_rfl)) (λ_ _ ag=>trivial) sz3 ag3 rfl rfl X (vI I) rfl wz (aa (.vs (aA 0) 1 ((c).toNat) (((b.length:Int)).toNat-(c).toNat)) (aa (vI a.2.2) (aa (vI (w64 (a.2.2-1))) ?_)))
         obtain ⟨_,N,e⟩:=bind_some e
         refine zO pQ rfl rfl (AV N) (wU N) wz ?_
         obtain ⟨J,Y,e⟩:=bind_some e
         refine Fy 8 0 (.inr (by kernel_rfl)) (λ_ _ ag=>⟨.inl ⟨rfl,rfl⟩,trivial⟩) sz3 ag3 rfl rfl Y (vI J) rfl wz (aa (vB (I != J)) (af ?_))
         obtain ⟨n,f,e⟩:=bind_some e
         refine aR [(0,(vV (aA 0) 1 n.1)),(3,(vI n.2)),(4,(.vs (aA 0) 1 ((c).toNat) (((b.length:Int)).toNat-(c).toNat))),(5,(vI a.2.2))] [((aA 0),some (bV 1 eI n.1))] ?_ ?_
         ·rcases aj f with⟨z,f⟩|⟨z,f⟩
          ·refine ay rfl z (ai (aa (vV (aA 0) 1 a.1) (aa (vI a.2.1) (aa (.vs (aA 0) 1 ((c).toNat) (((b.length:Int)).toNat-(c).toNat)) (aa (vI a.2.2) ?_)))))
           obtain ⟨_,O,f⟩:=bind_some f
           refine zO pQ rfl rfl (AV O) (wU O) wz ?_
           obtain ⟨p,Z,f⟩:=bind_some f
           refine Fy 0 0 il ft sz3 ag3 rfl rfl Z (vI p) rfl wz ?_
           obtain ⟨_,P,f⟩:=bind_some f
           refine zO pQ rfl rfl (ik P) (dN P) wz ?_
           obtain ⟨Å,À,f⟩:=bind_some f
           refine Dw 0 il ft 0 sz3 rfl rfl À p rfl wz (bT (v':=(vV (aA 0) 1 (a.1.set (0+(a.2.1).toNat) p))) 0 rfl (xS (by simp)) (bT (v':=(vV (aA 0) 1 (a.1.set (0+(a.2.1).toNat) p))) 45 rfl (xS (by simp)) (af (au (aa (vI a.2.1) (aa (vI (w64 (a.2.1+1))) (aa (vI (w64 (a.2.1+1))) (af ?_))))))))
           obtain rfl:=ae f
           exact cu
          ·refine ax rfl z (av ?_)
           obtain rfl:=ae f
           exact cu
         ·rintro ⟨⟩ _ Q F l m
          refine aO _ l m (au (aa (vI a.2.2) (aa (vI (w64 (a.2.2+1))) (aa (vI (w64 (a.2.2+1))) (af ?_)))))
          obtain rfl:=ae e
          exact aV (t,(n.1,n.2,(w64 (a.2.2+1)))) k (ls_ _) rfl (aG rfl)
        ·refine ax rfl y (aU ?_)
         obtain rfl:=ae e
         obtain rfl:=ae k
         exact aW ((a.1,a.2.1,a.2.2)) rfl rfl (aG rfl)
      ·rintro a C Q F l m
       subst C
       refine aO _ l m (ai (aa (vV (aA 0) 1 a.1) (aa (vI a.2.1) ?_)))
       obtain ⟨_,q,d⟩:=bind_some d
       refine Dj Ar sz3 rfl rfl q wz (Qe (i:=0) 0 il ft 0 Hy sz3 z3 rfl rfl rfl (by decide) rfl (tN q) rfl wz (bT (v':=(vV (aA 0) 1 (a.1.take ((a.2.1).toNat)++List.replicate (((a.1.length:Int)).toNat-(a.2.1).toNat) 0++a.1.drop (((a.2.1).toNat)+(((a.1.length:Int)).toNat-(a.2.1).toNat))))) 0 rfl (xS (Bh (tN q))) (bT (v':=(vV (aA 0) 1 (a.1.take ((a.2.1).toNat)++List.replicate (((a.1.length:Int)).toNat-(a.2.1).toNat) 0++a.1.drop (((a.2.1).toNat)+(((a.1.length:Int)).toNat-(a.2.1).toNat))))) 54 rfl (xS (Bh (tN q))) (af (ai (aa (vV (aA 0) 1 (a.1.take ((a.2.1).toNat)++List.replicate (((a.1.length:Int)).toNat-(a.2.1).toNat) 0++a.1.drop (((a.2.1).toNat)+(((a.1.length:Int)).toNat-(a.2.1).toNat)))) (aa (vI a.2.1) ?_)))))))
       obtain ⟨_,E,d⟩:=bind_some d
       refine Nb Ar sz3 rfl rfl E wz (aa (.vs (aA 0) 1 0 ((a.2.1).toNat)) (af (Gl 0 rfl (EY 0 0 rfl rfl (RX 2 0 rfl rfl (tN E) (EY 54 0 rfl rfl (EY 57 0 rfl rfl (RX 59 0 rfl rfl (tN E) (KY (i:=0) rfl ?_)))))))))
       obtain rfl:=ae d
       obtain rfl:=ae j
       obtain rfl:=ae g
       exact aC (oq (bs:=([]:List Box)) (os:=([]:List Box)) (xs:=b) (o:=none) (.inr rfl) [(vL eI (FI (a.1.take ((a.2.1).toNat)++List.replicate (((a.1.length:Int)).toNat-(a.2.1).toNat) 0++a.1.drop (((a.2.1).toNat)+(((a.1.length:Int)).toNat-(a.2.1).toNat))) 0 ((a.2.1).toNat)))] ⟨rfl,trivial⟩ rfl rfl rfl rfl rfl (by kernel_rfl) F5 rfl)
     ·refine ax rfl x (av (au (aa (vI c) (aa (vI (w64 (c+1))) (aa (vI (w64 (c+1))) (af ?_))))))
      obtain rfl:=ae d
      exact aV (u,(w64 (c+1))) j (ls_ _) rfl (aG rfl)
    ·refine ax rfl v (aU ?_)
     obtain rfl:=ae d
     obtain rfl:=ae j
     exact aW (c) rfl rfl (aG rfl)
  ·rintro c C Q F l m
   subst C
   refine aO _ l m (ai (aa (dV (aA 0) 1 b) (aa (dV (aA 0) 1 b) (af (iq 0 rfl (CP 0 0 rfl rfl (CP 2 0 rfl rfl (CP 60 0 rfl rfl (KY (i:=0) rfl ?_)))))))))
   obtain rfl:=ae g
   exact aC (oq (bs:=([]:List Box)) (os:=([]:List Box)) (xs:=b) (o:=none) (.inr rfl) [(vL eI b)] ⟨rfl,trivial⟩ rfl rfl rfl rfl rfl (by kernel_rfl) F5 rfl)
theorem EM {a:Run} {b:Run} {r:Int} (c:xN a b=some r) :
  FnM Tryz.prog 176 [(.d (.agg (Run.enc a))),(.d (.agg (Run.enc b)))] [] (vI r) []:=by
 refine FnM.of_wH ⟨Tryz.prog,10,[],[]⟩ rfl Tryz.func176 rfl rfl (lb_ rfl) (by kernel_rfl) ?_
 unfold xN at c
 refine ai (ib 0 (.inl rfl) [(vI a.f_from),(vI a.f_to)] rfl rfl wz (λe=>ib 0 (.inl rfl) [(vI b.f_from),(vI b.f_to)] rfl rfl wz (λf=>aa (vI 0) (af (ai (aK nX rfl 0 rfl wz (aI 0 0 il ft sz3 ag3 rfl rfl (vI a.f_from) rfl wz (aK nX rfl 0 rfl wz (aI 0 1 il ft sz3 ag3 rfl rfl (vI b.f_from) rfl wz (aa (vI (w64 (a.f_from-b.f_from))) (aa (vI (w64 (a.f_from-b.f_from))) (af ?_))))))))))))
 obtain rfl:=ae c
 exact aC (aN [(vI (w64 (a.f_from-b.f_from)))] ⟨rfl,trivial⟩)
end Go.Proofs.YtnfojnnfidnikaeGreatDoor.Law

