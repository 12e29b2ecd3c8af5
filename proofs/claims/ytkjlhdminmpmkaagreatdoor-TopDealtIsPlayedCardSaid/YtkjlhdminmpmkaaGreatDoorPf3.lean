/-
 The machine computes these plain functions (written by a program of ours).
-/
import Derived.Test.YtkjlhdminmpmkaaGreatDoorFacts
import Derived.Test.YtkjlhdminmpmkaaGreatDoorDefs
import Derived.Test.YtkjlhdminmpmkaaGreatDoorPf2
import Derived.Test.YtkjlhdminmpmkaaGreatDoorShelf
open Go Go.Eng Go.Proofs
namespace Go.Proofs.YtkjlhdminmpmkaaGreatDoor.Law
set_option maxRecDepth 100000
set_option linter.unusedVariables false
set_option maxHeartbeats 1000000
theorem og {a:(List (List Rect))} {r:(List Rect)} (g:eT a=some r) :
  FnM Tryz.prog 70 [(vL (eL Rect.enc) a)] [] (vL Rect.enc r) []:=by
 refine FnM.of_wH ⟨Tryz.prog,36,[],[]⟩ rfl Tryz.func70 rfl rfl (lb_ rfl) (by kernel_rfl) ?_
 unfold eT at g
 refine ai (aa .nil (af (ai (aa (vI 0) (af (ak (ai (aa (vL (eL Rect.enc) a) (bQ un168 rfl wz (aa (vI 0) (af ?_)))))))))))
 obtain ⟨R,z,g⟩:=bind_some g
 obtain ⟨O,z⟩:=bn z
 refine dB (λ(b:Int)=>[(0,(vL (eL Rect.enc) a)),(3,(vI b))]) (λ(b:Int)=>[]) (λ(h:Nat)=>(λ(b:Int)=>[(0,(vL (eL Rect.enc) a)),(3,(vI b)),(9,(vL (eL Rect.enc) a)),(10,(vI (a.length:Int))),(11,(vI (h:Int)))])) (λk x s=>gG k x s) R a 0 z rfl (aK rfl) ?_ ?_
 ·rintro ⟨h,E,b⟩ ⟨o,l⟩
  dsimp only at o l
  cases E with
  | nil =>
   obtain rfl:=ae o
   refine ai (aa (vB (decide ((h:Int)<(a.length:Int)))) (af ?_))
   refine ak (ay rfl (drop_nil l) (aY ?_))
   exact aW (b) rfl rfl (aK rfl)
  | cons e E =>
   obtain ⟨L,w,o⟩:=bind_some o
   refine ai (aa (vB (decide ((h:Int)<(a.length:Int)))) (af ?_))
   refine ak (aA rfl (bE l) (ax ?_))
   unfold gG at w
   refine ak (aQ (ai (dI Rx rfl rfl (bN l) rfl wz (bH sz77 ag77 rfl (vL Rect.enc e) rfl wz (aa (vL Rect.enc e) (af (ai (aa (vI b) (aa (vL Rect.enc e) (bQ IM rfl wz (aa (vI (w64 (b+(e.length:Int)))) (aa (vI (w64 (b+(e.length:Int)))) (af (ai (aa (vI (w64 (b+(e.length:Int)))) (aa (vB (decide ((w64 (b+(e.length:Int)))<0))) (af ?_)))))))))))))))))
   obtain ⟨U,q,w⟩:=bind_some w
   refine aU [(0,(vL (eL Rect.enc) a)),(3,(vI (w64 (b+(e.length:Int))))),(9,(vL (eL Rect.enc) a)),(10,(vI (a.length:Int))),(11,(vI (h:Int)))] [] ?_ ?_
   ·rcases aj q with⟨y,q⟩|⟨y,q⟩
    ·refine aA rfl y (au ?_)
     cases q
    ·refine ay rfl y (ax ?_)
     obtain rfl:=ae q
     exact cu
   ·rintro ⟨⟩ _ K G t u
    refine aR _ t u (au (dS (bC l O) wz rfl (aa (vI ((h+1:Nat):Int)) (af ?_))))
    obtain rfl:=ae w
    exact aZ (h+1,E,(w64 (b+(e.length:Int)))) ⟨o,aV l⟩ (ls_ _) rfl (aK rfl)
 ·rintro b B K G t u
  subst B
  refine aR _ t u (ai (aa (vI b) ?_))
  obtain ⟨f,P,g⟩:=bind_some g
  refine h_callk (enc:=Rect.enc) (nS P) rfl hb99 (by kernel_rfl) rfl (by kernel_rfl) wz (λI=>aa (kV f I 4 ([]:List Rect)) (af (ak (ai (aa (vL (eL Rect.enc) a) (bQ un168 rfl wz (aa (vI 0) (af ?_))))))))
  obtain ⟨T,A,g⟩:=bind_some g
  obtain ⟨M,A⟩:=bn A
  refine fV (σ:=(List Rect)) (N:=Nm) (λp=>(λ(c:List Rect) (d:Nm)=>([(6,(kV f d 4 c))]:SL_)) p.1 p.2) (λp=>(λ(c:List Rect) (d:Nm)=>([(d,kB f 4 Rect.enc c)]:Hp)) p.1 p.2) (λ(m:Nat)=>(λp=>(λ(c:List Rect) (d:Nm)=>([(6,(kV f d 4 c)),(25,(vL (eL Rect.enc) a)),(26,(vI (a.length:Int))),(27,(vI (m:Int)))]:SL_)) p.1 p.2)) (λk x s=>gH k x s) T a (([]:List Rect),I) A rfl (aK rfl) ?_ ?_
  ·rintro ⟨m,C,c,d⟩ ⟨n,j⟩
   dsimp only at n j
   cases C with
   | nil =>
    obtain rfl:=ae n
    refine ai (aa (vB (decide ((m:Int)<(a.length:Int)))) (af ?_))
    refine ak (ay rfl (drop_nil j) (aY ?_))
    exact aW (c,d) rfl rfl (aK rfl)
   | cons F C =>
    obtain ⟨L,v,n⟩:=bind_some n
    refine ai (aa (vB (decide ((m:Int)<(a.length:Int)))) (af ?_))
    refine ak (aA rfl (bE j) (ax ?_))
    unfold gH at v
    refine ak (aQ (ai (dI Rx rfl rfl (bN j) rfl wz (bH sz77 ag77 rfl (vL Rect.enc F) rfl wz (aa (vL Rect.enc F) (af (au (aa (kV f d 4 c) (aa (vL Rect.enc F) ?_)))))))))
    obtain ⟨H,Q,v⟩:=bind_some v
    refine h_appk 0 il ft (i:=0) LD LD BK z76 rfl (by decide) by76 (by decide) (λ_=>rfl) rfl rfl rfl Q wz (λJ=>aa (kV f J 4 H) (af (au (dS (bC j M) wz rfl (aa (vI ((m+1:Nat):Int)) (af ?_))))))
    obtain rfl:=ae v
    exact aZ (m+1,C,H,J) ⟨n,aV j⟩ (ls_ _) rfl (aK rfl)
  ·rintro ⟨c,d⟩ B K G t u
   subst B
   refine aR _ t u (ai (aa (kV f d 4 c) (aa (kV f d 4 c) (af (Qj 0 rfl (Ms 2 0 rfl rfl (Ms 6 0 rfl rfl (Ms 35 0 rfl rfl ?_))))))))
   obtain rfl:=ae g
   exact aC (aO [(vL Rect.enc c)] ⟨rfl,trivial⟩)
theorem ni {x r:(List Int)} (a:cK x=some r) :
  FnM Tryz.prog 33 [(dV (av 0) 1 x)] (([]:List Box)++gI 1 eI x) (.tup []) (([]:List Box).map some++gT x (gB 1 eI r)) :=
 PU Tryz.slices_Sort_int Tryz.slices_Sort_int_none a
theorem qR {b:(List Int)} {r:(List Int)} (g:fw b=some r) :
  FnM Tryz.prog 71 [(dV (av 0) 1 b)] (([]:List Box)++gI 1 eI b) (vL eI r) (([]:List Box).map some++gT b none):=by
 refine FnM.of_wHv ⟨Tryz.prog,61,[],[]⟩ rfl Tryz.func71 rfl rfl (lb_ rfl) (by kernel_rfl) ?_
 unfold fw at g
 refine ai (aa .nil (af (ak (ai (aa (dV (av 0) 1 b) (Jj ug rfl wz (aa (vB (decide ((b.length:Int)<2))) (af ?_))))))))
 rcases aj g with⟨w,g⟩|⟨w,g⟩
 ·refine aA rfl w (ai (aa (dV (av 0) 1 b) (aa (dV (av 0) 1 b) (af (fQ 0 rfl (zP 0 0 rfl rfl (zP 2 0 rfl rfl (zP 6 0 rfl rfl (zP 9 0 rfl rfl (Iz (i:=0) rfl ?_))))))))))
  obtain rfl:=ae g
  exact aC (qI (bs:=([]:List Box)) (os:=([]:List Box)) (xs:=b) (o:=none) (.inr rfl) [(vL eI b)] ⟨rfl,trivial⟩ rfl rfl rfl rfl rfl (by kernel_rfl) Dz rfl)
 ·refine ay rfl w (ax (ak (ai (aa (vI 1) (af ?_)))))
  obtain ⟨Ã,A,g⟩:=bind_some g
  obtain ⟨Â,A⟩:=bW A
  refine dY (λ(c:Int)=>[(0,(dV (av 0) 1 b))]) (λ(c:Int)=>[((av 0),gB 1 eI b)]) (λ(u:Nat)=>(λ(c:Int)=>[(0,(dV (av 0) 1 b)),(3,(vI c))])) (λs=>dX b s) Ã Â 1 A rfl (aK rfl) ?_ ?_
  ·rintro ⟨u,c⟩ j
   dsimp only at j
   cases u with
   | zero=>cases j
   | succ u =>
    obtain ⟨R,d,j⟩:=bind_some j
    unfold dX at d
    refine ak (ai (aa (vI c) (aa (dV (av 0) 1 b) (Jj ug rfl wz (aa (vB (decide (c<(b.length:Int)))) (af ?_))))))
    rcases aj d with⟨v,d⟩|⟨v,d⟩
    ·refine aA rfl v (ax (ak (aQ (ak (bv (aa (dV (av 0) 1 b) (aa (vI c) ?_)))))))
     obtain ⟨_,K,d⟩:=bind_some d
     refine o9 ic rfl rfl (fF K) (dC K) wz ?_
     obtain ⟨G,U,d⟩:=bind_some d
     refine nU 3 0 (.inr (by kernel_rfl)) (λ_ _ ag=>trivial) sz3 ag3 rfl rfl U (vI G) rfl wz (aa (dV (av 0) 1 b) (aa (vI c) (aa (vI (w64 (c-1))) ?_)))
     obtain ⟨_,L,d⟩:=bind_some d
     refine o9 ic rfl rfl (fF L) (dC L) wz ?_
     obtain ⟨H,W,d⟩:=bind_some d
     refine nU 8 0 (.inr (by kernel_rfl)) (λ_ _ ag=>⟨.inl ⟨rfl,rfl⟩,trivial⟩) sz3 ag3 rfl rfl W (vI H) rfl wz (aa (vB (G==H)) (af ?_))
     rcases aj d with⟨x,d⟩|⟨x,d⟩
     ·refine aA rfl x (ai (aa (dV (av 0) 1 b) (aa (vI c) ?_)))
      obtain ⟨_,h,d⟩:=bind_some d
      replace h:=Ru h
      refine fK (v':=(vV (av 0) 1 b)) 0 rfl (AU h) (fK (v':=(vV (av 0) 1 b)) 11 rfl (AU h) (fK (v':=(vV (av 0) 1 b)) 16 rfl (AU h) (fK (v':=(vV (av 0) 1 b)) 20 rfl (AU h) (fK (v':=(vV (av 0) 1 b)) 26 rfl (AU h) (xC 0 rfl (NK h) ?_)))))
      obtain ⟨_,T,d⟩:=bind_some d
      refine Kv ug sz3 rfl rfl T wz (aa (.vs (av 0) 1 ((c).toNat) (((b.length:Int)).toNat-(c).toNat)) (af (ak (ai (aa (vI 1) (af ?_))))))
      obtain ⟨Ä,B,d⟩:=bind_some d
      obtain ⟨Á,B⟩:=bW B
      refine dY (λ(a:(List Int)×Int×Int)=>[(0,(vV (av 0) 1 a.1)),(3,(vI a.2.1))]) (λ(a:(List Int)×Int×Int)=>[((av 0),some (bV 1 eI a.1))]) (λ(t:Nat)=>(λ(a:(List Int)×Int×Int)=>[(0,(vV (av 0) 1 a.1)),(3,(vI a.2.1)),(4,(.vs (av 0) 1 ((c).toNat) (((b.length:Int)).toNat-(c).toNat))),(5,(vI a.2.2))])) (λs=>gz b c s) Ä Á (b,c,1) B rfl (aK rfl) ?_ ?_
      ·rintro ⟨t,a⟩ k
       dsimp only at k
       cases t with
       | zero=>cases k
       | succ t =>
        obtain ⟨R,e,k⟩:=bind_some k
        unfold gz at e
        refine ak (ai (aa (vI a.2.2) (aa (.vs (av 0) 1 ((c).toNat) (((b.length:Int)).toNat-(c).toNat)) (Js ug rfl wz (aa (vB (decide (a.2.2<(((((b.length:Int)).toNat-(c).toNat):Nat):Int)))) (af ?_))))))
        rcases aj e with⟨y,e⟩|⟨y,e⟩
        ·refine aA rfl y (ax (ak (aQ (ak (bv (aa (.vs (av 0) 1 ((c).toNat) (((b.length:Int)).toNat-(c).toNat)) (aa (vI a.2.2) ?_)))))))
         obtain ⟨_,M,e⟩:=bind_some e
         refine j6 ic rfl rfl (lT M) (je M) wz ?_
         obtain ⟨I,X,e⟩:=bind_some e
         refine A7 3 0 (.inr (by kernel_rfl)) (λ_ _ ag=>trivial) sz3 ag3 rfl rfl X (vI I) rfl wz (aa (.vs (av 0) 1 ((c).toNat) (((b.length:Int)).toNat-(c).toNat)) (aa (vI a.2.2) (aa (vI (w64 (a.2.2-1))) ?_)))
         obtain ⟨_,N,e⟩:=bind_some e
         refine j6 ic rfl rfl (lT N) (je N) wz ?_
         obtain ⟨J,Y,e⟩:=bind_some e
         refine A7 8 0 (.inr (by kernel_rfl)) (λ_ _ ag=>⟨.inl ⟨rfl,rfl⟩,trivial⟩) sz3 ag3 rfl rfl Y (vI J) rfl wz (aa (vB (I != J)) (af ?_))
         obtain ⟨n,f,e⟩:=bind_some e
         refine aU [(0,(vV (av 0) 1 n.1)),(3,(vI n.2)),(4,(.vs (av 0) 1 ((c).toNat) (((b.length:Int)).toNat-(c).toNat))),(5,(vI a.2.2))] [((av 0),some (bV 1 eI n.1))] ?_ ?_
         ·rcases aj f with⟨z,f⟩|⟨z,f⟩
          ·refine aA rfl z (ai (aa (vV (av 0) 1 a.1) (aa (vI a.2.1) (aa (.vs (av 0) 1 ((c).toNat) (((b.length:Int)).toNat-(c).toNat)) (aa (vI a.2.2) ?_)))))
           obtain ⟨_,O,f⟩:=bind_some f
           refine j6 ic rfl rfl (lT O) (je O) wz ?_
           obtain ⟨p,Z,f⟩:=bind_some f
           refine A7 0 0 il ft sz3 ag3 rfl rfl Z (vI p) rfl wz ?_
           obtain ⟨_,P,f⟩:=bind_some f
           refine j6 ic rfl rfl (fF P) (dC P) wz ?_
           obtain ⟨Å,À,f⟩:=bind_some f
           refine yY 0 il ft 0 sz3 rfl rfl À p rfl wz (fK (v':=(vV (av 0) 1 (a.1.set (0+(a.2.1).toNat) p))) 0 rfl (uu (by simp)) (fK (v':=(vV (av 0) 1 (a.1.set (0+(a.2.1).toNat) p))) 45 rfl (uu (by simp)) (af (au (aa (vI a.2.1) (aa (vI (w64 (a.2.1+1))) (aa (vI (w64 (a.2.1+1))) (af ?_))))))))
           obtain rfl:=ae f
           exact cu
          ·refine ay rfl z (ax ?_)
           obtain rfl:=ae f
           exact cu
         ·rintro ⟨⟩ _ Q F l m
          refine aR _ l m (au (aa (vI a.2.2) (aa (vI (w64 (a.2.2+1))) (aa (vI (w64 (a.2.2+1))) (af ?_)))))
          obtain rfl:=ae e
          exact aZ (t,(n.1,n.2,(w64 (a.2.2+1)))) k (ls_ _) rfl (aK rfl)
        ·refine ay rfl y (aY ?_)
         obtain rfl:=ae e
         obtain rfl:=ae k
         exact aW ((a.1,a.2.1,a.2.2)) rfl rfl (aK rfl)
      ·rintro a C Q F l m
       subst C
       refine aR _ l m (ai (aa (vV (av 0) 1 a.1) (aa (vI a.2.1) ?_)))
       obtain ⟨_,q,d⟩:=bind_some d
       refine Kv ug sz3 rfl rfl q wz (h_clear (i:=0) 0 il ft 0 Bh sz3 z3 rfl rfl rfl (by decide) rfl (yo q) rfl wz (fK (v':=(vV (av 0) 1 (a.1.take ((a.2.1).toNat)++List.replicate (((a.1.length:Int)).toNat-(a.2.1).toNat) 0++a.1.drop (((a.2.1).toNat)+(((a.1.length:Int)).toNat-(a.2.1).toNat))))) 0 rfl (uu (GQ (yo q))) (fK (v':=(vV (av 0) 1 (a.1.take ((a.2.1).toNat)++List.replicate (((a.1.length:Int)).toNat-(a.2.1).toNat) 0++a.1.drop (((a.2.1).toNat)+(((a.1.length:Int)).toNat-(a.2.1).toNat))))) 54 rfl (uu (GQ (yo q))) (af (ai (aa (vV (av 0) 1 (a.1.take ((a.2.1).toNat)++List.replicate (((a.1.length:Int)).toNat-(a.2.1).toNat) 0++a.1.drop (((a.2.1).toNat)+(((a.1.length:Int)).toNat-(a.2.1).toNat)))) (aa (vI a.2.1) ?_)))))))
       obtain ⟨_,E,d⟩:=bind_some d
       refine PP ug sz3 rfl rfl E wz (aa (.vs (av 0) 1 0 ((a.2.1).toNat)) (af (Dp 0 rfl (yX 0 0 rfl rfl (QG 2 0 rfl rfl (yo E) (yX 54 0 rfl rfl (yX 57 0 rfl rfl (QG 59 0 rfl rfl (yo E) (Iz (i:=0) rfl ?_)))))))))
       obtain rfl:=ae d
       obtain rfl:=ae j
       obtain rfl:=ae g
       exact aC (qI (bs:=([]:List Box)) (os:=([]:List Box)) (xs:=b) (o:=none) (.inr rfl) [(vL eI (Dh (a.1.take ((a.2.1).toNat)++List.replicate (((a.1.length:Int)).toNat-(a.2.1).toNat) 0++a.1.drop (((a.2.1).toNat)+(((a.1.length:Int)).toNat-(a.2.1).toNat))) 0 ((a.2.1).toNat)))] ⟨rfl,trivial⟩ rfl rfl rfl rfl rfl (by kernel_rfl) Dz rfl)
     ·refine ay rfl x (ax (au (aa (vI c) (aa (vI (w64 (c+1))) (aa (vI (w64 (c+1))) (af ?_))))))
      obtain rfl:=ae d
      exact aZ (u,(w64 (c+1))) j (ls_ _) rfl (aK rfl)
    ·refine ay rfl v (aY ?_)
     obtain rfl:=ae d
     obtain rfl:=ae j
     exact aW (c) rfl rfl (aK rfl)
  ·rintro c C Q F l m
   subst C
   refine aR _ l m (ai (aa (dV (av 0) 1 b) (aa (dV (av 0) 1 b) (af (fQ 0 rfl (zP 0 0 rfl rfl (zP 2 0 rfl rfl (zP 60 0 rfl rfl (Iz (i:=0) rfl ?_)))))))))
   obtain rfl:=ae g
   exact aC (qI (bs:=([]:List Box)) (os:=([]:List Box)) (xs:=b) (o:=none) (.inr rfl) [(vL eI b)] ⟨rfl,trivial⟩ rfl rfl rfl rfl rfl (by kernel_rfl) Dz rfl)
theorem Bj {a:Run} {b:Run} {r:Int} (c:uD a b=some r) :
  FnM Tryz.prog 101 [(.d (.agg (Run.enc a))),(.d (.agg (Run.enc b)))] [] (vI r) []:=by
 refine FnM.of_wH ⟨Tryz.prog,10,[],[]⟩ rfl Tryz.func101 rfl rfl (lb_ rfl) (by kernel_rfl) ?_
 unfold uD at c
 refine ai (jU 0 (.inl rfl) [(vI a.f_from),(vI a.f_to)] rfl rfl wz (λe=>jU 0 (.inl rfl) [(vI b.f_from),(vI b.f_to)] rfl rfl wz (λf=>aa (vI 0) (af (ai (aI lV rfl 0 rfl wz (aH 0 0 il ft sz3 ag3 rfl rfl (vI a.f_from) rfl wz (aI lV rfl 0 rfl wz (aH 0 1 il ft sz3 ag3 rfl rfl (vI b.f_from) rfl wz (aa (vI (w64 (a.f_from-b.f_from))) (aa (vI (w64 (a.f_from-b.f_from))) (af ?_))))))))))))
 obtain rfl:=ae c
 exact aC (aO [(vI (w64 (a.f_from-b.f_from)))] ⟨rfl,trivial⟩)
theorem zt {k:Int} {r:Int} (a:qE k=some r) :
  FnM Tryz.prog 96 [(.d (.int .u64 k))] [] (vI r) []:=by
 refine FnM.of_wH ⟨Tryz.prog,25,[],[]⟩ rfl Tryz.func96 rfl rfl (lb_ rfl) (by kernel_rfl) ?_
 unfold qE at a
 refine ai (aa (vI 0) (af (ak (ai (aa (.d (.int .u64 k)) (aa (vB (decide (k>=4294967296))) (af ?_)))))))
 obtain ⟨b,f,a⟩:=bind_some a
 refine aU [(0,(.d (.int .u64 b.1))),(2,(vI b.2))] [] ?_ ?_
 ·rcases aj f with⟨n,f⟩|⟨n,f⟩
  ·refine aA rfl n (ai (aa (.d (.int .u64 k)) ?_))
   obtain ⟨y,v,f⟩:=bind_some f
   refine Hf rfl rfl v wz (aa (.d (.int .u64 y)) (af (au (aa (vI 32) (af ?_)))))
   obtain rfl:=ae f
   exact cu
  ·refine ay rfl n (ax ?_)
   obtain rfl:=ae f
   exact cu
 ·rintro ⟨⟩ _ q p i j
  refine aR _ i j (ak (ai (aa (.d (.int .u64 b.1)) (aa (vB (decide (b.1>=65536))) (af ?_)))))
  obtain ⟨c,g,a⟩:=bind_some a
  refine aU [(0,(.d (.int .u64 c.1))),(2,(vI c.2))] [] ?_ ?_
  ·rcases aj g with⟨o,g⟩|⟨o,g⟩
   ·refine aA rfl o (ai (aa (.d (.int .u64 b.1)) ?_))
    obtain ⟨w,t,g⟩:=bind_some g
    refine Hf rfl rfl t wz (aa (.d (.int .u64 w)) (af (au (aa (vI b.2) (aa (vI (w64 (b.2+16))) (aa (vI (w64 (b.2+16))) (af ?_)))))))
    obtain rfl:=ae g
    exact cu
   ·refine ay rfl o (ax ?_)
    obtain rfl:=ae g
    exact cu
  ·rintro ⟨⟩ _ q p i j
   refine aR _ i j (ak (ai (aa (.d (.int .u64 c.1)) (aa (vB (decide (c.1>=256))) (af ?_)))))
   obtain ⟨h,e,a⟩:=bind_some a
   refine aU [(0,(.d (.int .u64 h.1))),(2,(vI h.2))] [] ?_ ?_
   ·rcases aj e with⟨m,e⟩|⟨m,e⟩
    ·refine aA rfl m (ai (aa (.d (.int .u64 c.1)) ?_))
     obtain ⟨x,u,e⟩:=bind_some e
     refine Hf rfl rfl u wz (aa (.d (.int .u64 x)) (af (au (aa (vI c.2) (aa (vI (w64 (c.2+8))) (aa (vI (w64 (c.2+8))) (af ?_)))))))
     obtain rfl:=ae e
     exact cu
    ·refine ay rfl m (ax ?_)
     obtain rfl:=ae e
     exact cu
   ·rintro ⟨⟩ _ q p i j
    refine aR _ i j (ai (aa (vI h.2) (aa (.d (.int .u64 h.1)) (oZ KV un5 rfl wz ?_))))
    obtain ⟨l,s,a⟩:=bind_some a
    refine zD un9 rfl rfl s wz (oZ un5 un3 rfl wz (aa (vI (w64 (h.2+(w64 (l.toNat:Int))))) (aa (vI (w64 (h.2+(w64 (l.toNat:Int))))) (af ?_))))
    obtain rfl:=ae a
    exact aC (aO [(vI (w64 (h.2+(w64 (l.toNat:Int)))))] ⟨rfl,trivial⟩)
theorem BN {b:Int} {r:Int} (a:p8 b=some r) :
  FnM Tryz.prog 63 [(.d (.int .u64 b))] [] (vI r) []:=by
 refine FnM.of_wH ⟨Tryz.prog,8,[],[]⟩ rfl Tryz.func63 rfl rfl (lb_ rfl) (by kernel_rfl) ?_
 unfold p8 at a
 refine ai (aa (vI 0) (af (ak (ay rfl rfl (ax (ai (aa (.d (.int .u64 b)) ?_)))))))
 obtain ⟨c,e,a⟩:=bind_some a
 refine aG (zt e) rfl hb96 rfl rfl rfl rfl wz (aa (vI c) (af ?_))
 obtain rfl:=ae a
 exact aC (aO [(vI c)] ⟨rfl,trivial⟩)
theorem kK {k:(List Run)} {f:Int} {h:Int} {r:(List Run)} (p:bP k f h=some r) :
  FnM Tryz.prog 148 [(dV (av 0) 2 k),(vI f),(vI h),(.fn 101 [])] (([]:List Box)++gI 2 Run.enc k) (.tup []) (([]:List Box).map some++gT k (gB 2 Run.enc r)):=by
 refine FnM.of_wHv ⟨Tryz.prog,53,[],[]⟩ rfl Tryz.func148 rfl rfl (lb_ rfl) (by kernel_rfl) ?_
 unfold bP at p
 refine ai (aa (vI f) (aa (vI (w64 (f+1))) (aa (vI (w64 (f+1))) (af ?_))))
 obtain ⟨Z,y,p⟩:=bind_some p
 obtain ⟨Y,y⟩:=bW y
 refine dY (λ(c:(List Run)×Int)=>[]) (λ(c:(List Run)×Int)=>[((av 0),gB 2 Run.enc c.1)]) (λ(u:Nat)=>(λ(c:(List Run)×Int)=>[(0,(dV (av 0) 2 c.1)),(1,(vI f)),(2,(vI h)),(3,(.fn 101 [])),(8,(vI c.2))])) (λs=>bK h f s) Z Y (k,(w64 (f+1))) y rfl (aK rfl) ?_ ?_
 ·rintro ⟨u,c⟩ l
  dsimp only at l
  cases u with
  | zero=>cases l
  | succ u =>
   obtain ⟨L,j,l⟩:=bind_some l
   unfold bK at j
   refine ak (ai (aa (vI c.2) (aa (vI h) (aa (vB (decide (c.2<h))) (af ?_)))))
   rcases aj j with⟨v,j⟩|⟨v,j⟩
   ·refine aA rfl v (ax (ak (aQ (ai (aa (vI c.2) (aa (vI c.2) (af ?_)))))))
    obtain ⟨À,z,j⟩:=bind_some j
    obtain ⟨X,z⟩:=bW z
    refine dY (λ(a:(List Run)×Int)=>[(0,(dV (av 0) 2 a.1)),(1,(vI f)),(2,(vI h)),(3,(.fn 101 [])),(8,(vI c.2))]) (λ(a:(List Run)×Int)=>[((av 0),gB 2 Run.enc a.1)]) (λ(t:Nat)=>(λ(a:(List Run)×Int)=>[(0,(dV (av 0) 2 a.1)),(1,(vI f)),(2,(vI h)),(3,(.fn 101 [])),(8,(vI c.2)),(9,(vI a.2))])) (λs=>bZ f s) À X (c.1,c.2) z rfl (aK rfl) ?_ ?_
    ·rintro ⟨t,a⟩ m
     dsimp only at m
     cases t with
     | zero=>cases m
     | succ t =>
      obtain ⟨L,b,m⟩:=bind_some m
      unfold bZ at b
      refine ak (ak ?_)
      obtain ⟨Á,e,b⟩:=bind_some b
      refine aU [(0,(dV (av 0) 2 a.1)),(1,(vI f)),(2,(vI h)),(3,(.fn 101 [])),(8,(vI c.2)),(9,(vI a.2)),(34,(vB Á))] [((av 0),gB 2 Run.enc a.1)] ?_ ?_
      ·refine bv (aa (vI a.2) (aa (vI f) (aa (vB (decide (a.2>f))) ?_)))
       rcases aj e with⟨w,e⟩|⟨w,e⟩
       ·refine aB rfl w wz (aL (.fn 101 []) wa rfl (aL (dV (av 0) 2 a.1) wa rfl (aL (vI a.2) wa rfl ?_)))
        obtain ⟨_,C,e⟩:=bind_some e
        refine o9 mG rfl rfl (fF C) (dC C) wa ?_
        obtain ⟨M,P,e⟩:=bind_some e
        refine nU 8 0 (.inr (by kernel_rfl)) (λ_ _ ag=>trivial) ou xG rfl rfl P (.d (.agg (Run.enc M))) rfl wa (aL (dV (av 0) 2 a.1) wa rfl (aL (vI a.2) wa rfl (aL (vI (w64 (a.2-1))) wa rfl ?_)))
        obtain ⟨_,E,e⟩:=bind_some e
        refine o9 mG rfl rfl (fF E) (dC E) wa ?_
        obtain ⟨N,Q,e⟩:=bind_some e
        refine nU 13 0 (.inr (by kernel_rfl)) (λ_ _ ag=>⟨.inl ⟨rfl,rfl⟩,trivial⟩) ou xG rfl rfl Q (.d (.agg (Run.enc N))) rfl wa ?_
        obtain ⟨J,O,e⟩:=bind_some e
        refine aG (Bj O) rfl hb101 rfl rfl rfl rfl wa (aL (vB (decide (J<0))) wa rfl (aa (vB (decide (J<0))) (af ?_)))
        obtain rfl:=ae e
        exact cu
       ·refine aB rfl w wz (ah (ah (ah (ah (ah (ah (ah (ah (ah (ah (ah (ah (aa (vB false) (af ?_))))))))))))))
        obtain rfl:=ae e
        exact cu
      ·rintro ⟨⟩ _ K B q n
       refine aR _ q n ?_
       rcases aj b with⟨x,b⟩|⟨x,b⟩
       ·refine aA rfl x (ax (ak (aQ (bv (aa (dV (av 0) 2 a.1) (aa (vI a.2) (aa (dV (av 0) 2 a.1) (aa (vI a.2) (aa (vI (w64 (a.2-1))) (aa (dV (av 0) 2 a.1) (aa (vI a.2) (aa (vI (w64 (a.2-1))) ?_))))))))))))
        obtain ⟨_,F,b⟩:=bind_some b
        refine o9 mG rfl rfl (fF F) (dC F) wz ?_
        obtain ⟨g,R,b⟩:=bind_some b
        refine nU 9 0 (.inr (by kernel_rfl)) (λ_ _ ag=>trivial) ou xG rfl rfl R (.d (.agg (Run.enc g))) rfl wz (aa (dV (av 0) 2 a.1) (aa (vI a.2) ?_))
        obtain ⟨_,G,b⟩:=bind_some b
        refine o9 mG rfl rfl (fF G) (dC G) wz ?_
        obtain ⟨i,T,b⟩:=bind_some b
        refine nU 13 0 (.inr (by kernel_rfl)) (λ_ _ ag=>⟨.inl ⟨rfl,rfl⟩,trivial⟩) ou xG rfl rfl T (.d (.agg (Run.enc i))) rfl wz ?_
        obtain ⟨_,H,b⟩:=bind_some b
        refine o9 mG rfl rfl (fF H) (dC H) wz ?_
        obtain ⟨Â,U,b⟩:=bind_some b
        refine vC 15 (.inr (by kernel_rfl)) (λ_ _ ag=>⟨.inr (.inr (by kernel_rfl)),⟨.inr (.inr (by kernel_rfl)),trivial⟩⟩) 0 ou rfl rfl U g rfl wz (fK (v':=(dV (av 0) 2 (a.1.set (0+(a.2).toNat) g))) 0 rfl (fT (by simp)) (fK (v':=(dV (av 0) 2 (a.1.set (0+(a.2).toNat) g))) 37 rfl (fT (by simp)) (fK (v':=(dV (av 0) 2 (a.1.set (0+(a.2).toNat) g))) 39 rfl (fT (by simp)) (fK (v':=(dV (av 0) 2 (a.1.set (0+(a.2).toNat) g))) 42 rfl (fT (by simp)) (fK (v':=(dV (av 0) 2 (a.1.set (0+(a.2).toNat) g))) 47 rfl (fT (by simp)) ?_)))))
        obtain ⟨_,I,b⟩:=bind_some b
        refine o9 mG rfl rfl (fF I) (dC I) wz ?_
        obtain ⟨Ã,W,b⟩:=bind_some b
        refine vC 17 (.inr (by kernel_rfl)) (λ_ _ ag=>⟨.inr (.inr (by kernel_rfl)),⟨.inr (.inr (by kernel_rfl)),⟨.inr (.inr (by kernel_rfl)),trivial⟩⟩⟩) 0 ou rfl rfl W i rfl wz (fK (v':=(dV (av 0) 2 ((a.1.set (0+(a.2).toNat) g).set (0+((w64 (a.2-1))).toNat) i))) 0 rfl (fT (by simp)) (fK (v':=(dV (av 0) 2 ((a.1.set (0+(a.2).toNat) g).set (0+((w64 (a.2-1))).toNat) i))) 37 rfl (fT (by simp)) (fK (v':=(dV (av 0) 2 ((a.1.set (0+(a.2).toNat) g).set (0+((w64 (a.2-1))).toNat) i))) 39 rfl (fT (by simp)) (fK (v':=(dV (av 0) 2 ((a.1.set (0+(a.2).toNat) g).set (0+((w64 (a.2-1))).toNat) i))) 42 rfl (fT (by simp)) (fK (v':=(dV (av 0) 2 ((a.1.set (0+(a.2).toNat) g).set (0+((w64 (a.2-1))).toNat) i))) 47 rfl (fT (by simp)) (af (au (aa (vI a.2) (aa (vI (w64 (a.2-1))) (aa (vI (w64 (a.2-1))) (af ?_)))))))))))
        obtain rfl:=ae b
        exact aZ (t,(((a.1.set (0+(a.2).toNat) g).set (0+((w64 (a.2-1))).toNat) i),(w64 (a.2-1)))) m (ls_ _) rfl (aK rfl)
       ·refine ay rfl x (aY ?_)
        obtain rfl:=ae b
        obtain rfl:=ae m
        exact aW ((a.1,a.2)) rfl rfl (aK rfl)
    ·rintro a A K B q n
     subst A
     refine aR _ q n (au (aa (vI c.2) (aa (vI (w64 (c.2+1))) (aa (vI (w64 (c.2+1))) (af ?_)))))
     obtain rfl:=ae j
     exact aZ (u,(a.1,(w64 (c.2+1)))) l (ls_ _) rfl (aK rfl)
   ·refine ay rfl v (aY ?_)
    obtain rfl:=ae j
    obtain rfl:=ae l
    exact aW ((c.1,c.2)) rfl rfl (aK rfl)
 ·rintro c A K B q n
  subst A
  show sW _ _ _ _ _ _ _ _
  obtain rfl:=ae p
  exact Dy (H0:=([((av 0),gB 2 Run.enc c.1)]:Hp)) (sl':=envS []) n (qI (bs:=([]:List Box)) (os:=([]:List Box)) (xs:=k) (o:=gB 2 Run.enc c.1) (.inl rfl) [] trivial rfl rfl rfl rfl rfl (by kernel_rfl) q8 rfl)
theorem l8 {a:(List Run)} {c:Int} {d:Int} {e:Int} {r:(List Run)} (f:di a c d e=some r) :
  FnM Tryz.prog 128 [(dV (av 0) 2 a),(vI c),(vI d),(vI e),(.fn 101 [])] (([]:List Box)++gI 2 Run.enc a) (.tup []) (([]:List Box).map some++gT a (gB 2 Run.enc r)):=by
 refine FnM.of_wHv ⟨Tryz.prog,148,[],[]⟩ rfl Tryz.func128 rfl rfl (lb_ rfl) (by kernel_rfl) ?_
 unfold di at f
 refine ai (aa (vB true) (af (ai (aa (vB true) (af ?_)))))
 obtain ⟨v,m,f⟩:=bind_some f
 obtain ⟨u,m⟩:=bW m
 refine dY (λ(j:Unit)=>[]) (λ(j:Unit)=>[((av 0),gB 2 Run.enc a)]) (λ(n:Nat)=>(λ(j:Unit)=>[(0,(dV (av 0) 2 a)),(1,(vI c)),(2,(vI d)),(3,(vI e)),(4,(.fn 101 [])),(10,(vB true)),(11,(vB true))])) (λs=>bX d c a e s) v u () m rfl (aK rfl) ?_ ?_
 ·rintro ⟨n,j⟩ g
  dsimp only at g
  cases n with
  | zero=>cases g
  | succ n =>
   obtain ⟨x,b,g⟩:=bind_some g
   unfold bX at b
   refine aQ (ai (aa (vI d) (aa (vI c) (aa (vI (w64 (d-c))) (aa (vI (w64 (d-c))) (af (ak (ai (aa (vI (w64 (d-c))) (aa (vB (decide ((w64 (d-c))<=12))) (af ?_)))))))))))
   rcases aj b with⟨k,b⟩|⟨k,b⟩
   ·refine aA rfl k (ai (aa (dV (av 0) 2 a) (aa (vI c) (aa (vI d) (aa (.fn 101 []) ?_)))))
    obtain ⟨i,t,b⟩:=bind_some b
    obtain ⟨_,h,b⟩:=bind_some b
    replace h:=lH h
    refine qb 0 [] 0 0 il ft (kK t) rfl hb148 rfl rfl rfl (by kernel_rfl) rfl (.inr (.inl rfl)) rfl (by kernel_rfl) (by kernel_rfl) (by kernel_rfl) (by kernel_rfl) rfl (by decide) (by kernel_rfl) q8 (A9 h) wz ([((av 0),gB 2 Run.enc i)]:Hp) (by kernel_rfl) (fK (v':=(dV (av 0) 2 i)) 0 rfl (fT h.symm) (fK (v':=(dV (av 0) 2 i)) 26 rfl (fT h.symm) (af ?_)))
    obtain rfl:=ae b
    obtain rfl:=ae g
    obtain rfl:=ae f
    exact aC (qI (bs:=([]:List Box)) (os:=([]:List Box)) (xs:=a) (o:=gB 2 Run.enc i) (.inr rfl) [] trivial rfl rfl rfl rfl rfl (by kernel_rfl) q8 rfl)
   ·refine ay rfl k (ax (ak (ai (aa (vI e) (aa (vB (e==0)) (af ?_))))))
    rcases aj b with⟨l,b⟩|⟨l,b⟩
    ·refine aA rfl l (ai (aa (dV (av 0) 2 a) (aa (vI c) (aa (vI d) (aa (.fn 101 []) ?_)))))
     cases b
    ·refine ay rfl l (ax (ak (ai (aa (vB true) (aa (vB false) (af (ay rfl rfl (ax (ai (aa (dV (av 0) 2 a) (aa (vI c) (aa (vI d) (aa (.fn 101 []) ?_)))))))))))))
     cases b
 ·rintro j p z w y q
  subst p
  show sW _ _ _ _ _ _ _ _
  obtain rfl:=ae f
  exact Dy (H0:=([((av 0),gB 2 Run.enc a)]:Hp)) (sl':=envS []) q (qI (bs:=([]:List Box)) (os:=([]:List Box)) (xs:=a) (o:=gB 2 Run.enc a) (.inl rfl) [] trivial rfl rfl rfl rfl rfl (by kernel_rfl) q8 rfl)
theorem kS {a:(List Run)} {r:(List Run)} (b:bS a=some r) :
  FnM Tryz.prog 100 [(dV (av 0) 2 a),(.fn 101 [])] (([]:List Box)++gI 2 Run.enc a) (.tup []) (([]:List Box).map some++gT a (gB 2 Run.enc r)):=by
 refine FnM.of_wHv ⟨Tryz.prog,14,[],[]⟩ rfl Tryz.func100 rfl rfl (lb_ rfl) (by kernel_rfl) ?_
 unfold bS at b
 refine ai (aa (dV (av 0) 2 a) (Jj yQ rfl wz (aa (vI (a.length:Int)) (af (au (aa (dV (av 0) 2 a) (aa (vI (a.length:Int)) (aa (vI (a.length:Int)) (oZ un3 Cz rfl wz ?_)))))))))
 obtain ⟨g,e,b⟩:=bind_some b
 refine aG (BN e) rfl hb63 rfl rfl rfl rfl wz (aa (.fn 101 []) ?_)
 obtain ⟨d,f,b⟩:=bind_some b
 obtain ⟨_,c,b⟩:=bind_some b
 replace c:=lH c
 refine qb 0 [] 0 0 il ft (l8 f) rfl hb128 rfl rfl rfl (by kernel_rfl) rfl (.inr (.inl rfl)) rfl (by kernel_rfl) (by kernel_rfl) (by kernel_rfl) (by kernel_rfl) rfl (by decide) (by kernel_rfl) q8 (A9 c) wz ([((av 0),gB 2 Run.enc d)]:Hp) (by kernel_rfl) (fK (v':=(dV (av 0) 2 d)) 0 rfl (fT c.symm) (fK (v':=(dV (av 0) 2 d)) 5 rfl (fT c.symm) (fK (v':=(dV (av 0) 2 d)) 7 rfl (fT c.symm) (af ?_))))
 show sW _ _ _ _ _ _ _ _
 obtain rfl:=ae b
 exact qI (bs:=([]:List Box)) (os:=([]:List Box)) (xs:=a) (o:=gB 2 Run.enc d) (.inl rfl) [] trivial rfl rfl rfl rfl rfl (by kernel_rfl) q8 rfl
theorem xc {j:(List Rect)} {o:Int} {r:(List Run)} (q:oq j o=some r) :
  FnM Tryz.prog 73 [(vL Rect.enc j),(vI o)] [] (vL Run.enc r) []:=by
 refine FnM.of_wH ⟨Tryz.prog,84,[],[]⟩ rfl Tryz.func73 rfl rfl (lb_ rfl) (by kernel_rfl) ?_
 unfold oq at q
 refine ai (aa .nil (af (ai (aa .nil (af (ak (ai (aa (vL Rect.enc j) (bQ IM rfl wz (aa (vI 0) (af (jJ (λÛ => ?_)))))))))))))
 obtain ⟨Ü,À,q⟩:=bind_some q
 obtain ⟨Ò,À⟩:=bn À
 refine fV (σ:=(List Run)) (N:=Nm) (λp=>(λ(l:List Run) (e:Nm)=>([(5,(gV e 2 l))]:SL_)) p.1 p.2) (λp=>(λ(l:List Run) (e:Nm)=>([(e,gB 2 Run.enc l)]:Hp)) p.1 p.2) (λ(u:Nat)=>(λp=>(λ(l:List Run) (e:Nm)=>([(1,(vI o)),(5,(gV e 2 l)),(12,(vL Rect.enc j)),(13,(vI (j.length:Int))),(14,(vI (u:Int)))]:SL_)) p.1 p.2)) (λk x s=>oF o k x s) Ü j (([]:List Run),Û) À rfl (aK rfl) ?_ ?_
 ·rintro ⟨u,Ä,l,e⟩ ⟨G,B⟩
  dsimp only at G B
  cases Ä with
  | nil =>
   obtain rfl:=ae G
   refine ai (aa (vB (decide ((u:Int)<(j.length:Int)))) (af ?_))
   refine ak (ay rfl (drop_nil B) (aY ?_))
   exact aW (l,e) rfl rfl (aK rfl)
  | cons b Ä =>
   obtain ⟨Ð,C,G⟩:=bind_some G
   refine ai (aa (vB (decide ((u:Int)<(j.length:Int)))) (af ?_))
   refine ak (aA rfl (bE B) (ax ?_))
   unfold oF at C
   refine ak (aQ (ai (dI Pt rfl rfl (bN B) rfl wz (bH BK QA rfl (.d (.agg (Rect.enc b))) rfl wz (dz 0 (.inl rfl) z76 rfl wz (λÅ=>gp 0 il ft 1 BK rfl rfl (Rect.v b) rfl wz (af (ak ?_))))))))
   obtain ⟨Þ,J,C⟩:=bind_some C
   refine aU [(1,(vI o)),(5,(gV e 2 l)),(7,(.ref Å 0 0)),(12,(vL Rect.enc j)),(13,(vI (j.length:Int))),(14,(vI (u:Int))),(30,(vB Þ))] [(e,gB 2 Run.enc l),(Å,some (.cells 4 (Rect.v b)))] ?_ ?_
   ·refine au (aI Cg rfl 1 rfl wz (aH 0 1 il ft sz3 ag3 rfl rfl (vI b.Y) rfl wz (aa (vI o) (aa (vB (decide (b.Y<=o))) ?_))))
    rcases aj J with⟨R,J⟩|⟨R,J⟩
    ·refine aB rfl R wz (aL (vI o) wa rfl (aI Cg rfl 1 rfl wa (aH 0 1 il ft sz3 ag3 rfl rfl (vI b.Y) rfl wa (aI Iq rfl 3 rfl wa (aH 0 1 il ft sz3 ag3 rfl rfl (vI b.H) rfl wa (aL (vI (w64 (b.Y+b.H))) wa rfl (aL (vB (decide (o<(w64 (b.Y+b.H))))) wa rfl (aa (vB (decide (o<(w64 (b.Y+b.H))))) (af ?_)))))))))
     obtain rfl:=ae J
     exact cu
    ·refine aB rfl R wz (ah (ah (ah (ah (ah (ah (ah (aa (vB false) (af ?_)))))))))
     obtain rfl:=ae J
     exact cu
   ·rintro ⟨⟩ _ O F m n
    refine aR _ m n ?_
    obtain ⟨Ç,y,C⟩:=bind_some C
    refine kr (β:=Nm) (λ(L:Nm)=>([(1,(vI o)),(5,(gV L 2 Ç)),(12,(vL Rect.enc j)),(13,(vI (j.length:Int))),(14,(vI (u:Int)))]:SL_)) (λ(L:Nm)=>([(L,gB 2 Run.enc Ç),(Å,some (.cells 4 (Rect.v b)))]:Hp)) (λ_=>True) ?_ ?_
    ·rcases aj y with⟨T,y⟩|⟨T,y⟩
     ·refine aA rfl T (au (aa (gV e 2 l) (aI Jg rfl 0 rfl wz (aH 0 1 il ft sz3 ag3 rfl rfl (vI b.X) rfl wz (aI Jg rfl 0 rfl wz (aH 0 1 il ft sz3 ag3 rfl rfl (vI b.X) rfl wz (aI MG rfl 2 rfl wz (aH 0 1 il ft sz3 ag3 rfl rfl (vI b.W) rfl wz (aa (vI (w64 (b.X+b.W))) (aL (.d (.agg (Run.enc (⟨b.X,(w64 (b.X+b.W))⟩:Run)))) wz (by kernel_rfl) (gL (([(⟨b.X,(w64 (b.X+b.W))⟩:Run)]:List Run).map Run.enc) mG Nw rfl rfl rfl rfl rfl wz ?_)))))))))))
      obtain ⟨Î,Ø,y⟩:=bind_some y
      refine jr 0 il ft (i:=0) Ct Ct ou MP rfl (by decide) Ng (by decide) (λ_=>rfl) rfl rfl rfl Ø wz (λÌ=>aa (gV Ì 2 Î) (af ?_))
      obtain rfl:=ae y
      exact aW Ì trivial rfl (aK rfl)
     ·refine ay rfl T (ax ?_)
      obtain rfl:=ae y
      exact aW e trivial rfl (aK rfl)
    ·rintro L _ O F m n
     refine aR _ m n (au (dS (bC B Ò) wz rfl (aa (vI ((u+1:Nat):Int)) (af ?_))))
     obtain rfl:=ae C
     exact aZ (u+1,Ä,Ç,L) ⟨G,aV B⟩ (ls_ _) rfl (aK rfl)
 ·rintro ⟨l,e⟩ Â O F m n
  subst Â
  refine aR _ m n (ai (aa (gV e 2 l) ?_))
  obtain ⟨g,Ó,q⟩:=bind_some q
  obtain ⟨_,K,q⟩:=bind_some q
  replace K:=lH K
  refine qb 0 [] 0 0 il ft (kS Ó) rfl hb100 rfl rfl rfl (by kernel_rfl) rfl (.inl rfl) rfl (by kernel_rfl) (by kernel_rfl) (by kernel_rfl) (by kernel_rfl) rfl (by decide) (by kernel_rfl) q8 (A9 K) wz ([(e,gB 2 Run.enc g)]:Hp) (by kernel_rfl) (fK (v':=(gV e 2 g)) 43 rfl (kW K.symm) (fK (v':=(gV e 2 g)) 5 rfl (kW K.symm) (af (ai (aa .nil (af (ak (ai (aa (gV e 2 g) (zJ yQ rfl wz (aa (vI 0) (af (fQ 0 rfl (dx 5 0 rfl rfl (dx 43 0 rfl rfl (dx 45 0 rfl rfl (jJ (λÚ => ?_))))))))))))))))))
  obtain ⟨Ý,Á,q⟩:=bind_some q
  obtain ⟨Ñ,Á⟩:=bn Á
  refine fV (σ:=(List Run)) (N:=Nm) (λp=>(λ(a:List Run) (c:Nm)=>([(8,(gV c 2 a))]:SL_)) p.1 p.2) (λp=>(λ(a:List Run) (c:Nm)=>([(e,gF 2 Run.enc g),(c,gB 2 Run.enc a)]:Hp)) p.1 p.2) (λ(w:Nat)=>(λp=>(λ(a:List Run) (c:Nm)=>([(8,(gV c 2 a)),(45,(vL Run.enc g)),(46,(vI (g.length:Int))),(47,(vI (w:Int)))]:SL_)) p.1 p.2)) (λk x s=>oQ k x s) Ý g (([]:List Run),Ú) Á rfl (aK rfl) ?_ ?_
  ·rintro ⟨w,Ã,a,c⟩ ⟨I,A⟩
   dsimp only at I A
   cases Ã with
   | nil =>
    obtain rfl:=ae I
    refine ai (aa (vB (decide ((w:Int)<(g.length:Int)))) (af ?_))
    refine ak (ay rfl (drop_nil A) (aY ?_))
    exact aW (a,c) rfl rfl (aK rfl)
   | cons f Ã =>
    obtain ⟨Ð,E,I⟩:=bind_some I
    refine ai (aa (vB (decide ((w:Int)<(g.length:Int)))) (af ?_))
    refine ak (aA rfl (bE A) (ax ?_))
    unfold oQ at E
    refine ak (aQ (ai (dI mG rfl rfl (bN A) rfl wz (bH ou xG rfl (.d (.agg (Run.enc f))) rfl wz (dz 0 (.inl rfl) MP rfl wz (λÆ=>gp 0 il ft 2 ou rfl rfl [(vI f.f_from),(vI f.f_to)] rfl wz (af (ai (aa (gV c 2 a) (zJ yQ rfl wz (aa (vI (w64 ((a.length:Int)-1))) (aa (vI (w64 ((a.length:Int)-1))) (af (ak ?_))))))))))))))
    obtain ⟨ß,t,E⟩:=bind_some E
    refine aU [(8,(gV c 2 a)),(10,(.ref Æ 0 0)),(11,(vI (w64 ((a.length:Int)-1)))),(45,(vL Run.enc g)),(46,(vI (g.length:Int))),(47,(vI (w:Int))),(65,(vB ß))] [(e,gF 2 Run.enc g),(c,gB 2 Run.enc a),(Æ,some (.cells 2 [(vI f.f_from),(vI f.f_to)]))] ?_ ?_
    ·refine bv (aa (vI (w64 ((a.length:Int)-1))) (aa (vB (decide ((w64 ((a.length:Int)-1))>=0))) ?_))
     rcases aj t with⟨U,t⟩|⟨U,t⟩
     ·refine aB rfl U wz (aI lV rfl 0 rfl wa (aH 4 2 (.inr (by kernel_rfl)) (λ_ _ ag=>trivial) sz3 ag3 rfl rfl (vI f.f_from) rfl wa (aL (gV c 2 a) wa rfl (aL (vI (w64 ((a.length:Int)-1))) wa rfl ?_))))
      obtain ⟨_,É,t⟩:=bind_some t
      refine jv mG rfl rfl (fF É) (dC É) wa (aI rC rfl 1 rfl wa ?_)
      obtain ⟨Q,Ô,t⟩:=bind_some t
      refine nU 9 1 (.inr (by kernel_rfl)) (λ_ _ ag=>⟨.inl ⟨rfl,rfl⟩,trivial⟩) sz3 ag3 rfl rfl Ô (vI Q.f_to) rfl wa (aL (vB (decide (f.f_from<=Q.f_to))) wa rfl (aa (vB (decide (f.f_from<=Q.f_to))) (af ?_)))
      obtain rfl:=ae t
      exact cu
     ·refine aB rfl U wz (ah (ah (ah (ah (ah (ah (ah (ah (aa (vB false) (af ?_))))))))))
      obtain rfl:=ae t
      exact cu
    ·rintro ⟨⟩ _ O F m n
     refine aR _ m n ?_
     obtain ⟨È,h,E⟩:=bind_some E
     refine kr (β:=Nm) (λ(M:Nm)=>([(8,(gV M 2 È)),(45,(vL Run.enc g)),(46,(vI (g.length:Int))),(47,(vI (w:Int)))]:SL_)) (λ(M:Nm)=>([(e,gF 2 Run.enc g),(M,gB 2 Run.enc È),(Æ,some (.cells 2 [(vI f.f_from),(vI f.f_to)]))]:Hp)) (λ_=>True) ?_ ?_
     ·rcases aj h with⟨Z,h⟩|⟨Z,h⟩
      ·refine aA rfl Z (bv (aa (gV c 2 a) (aa (vI (w64 ((a.length:Int)-1))) (aa (gV c 2 a) (aa (vI (w64 ((a.length:Int)-1))) ?_)))))
       obtain ⟨_,Ê,h⟩:=bind_some h
       refine jv mG rfl rfl (fF Ê) (dC Ê) wz (aI rC rfl 1 rfl wz ?_)
       obtain ⟨z,Õ,h⟩:=bind_some h
       refine nU 6 1 (.inr (by kernel_rfl)) (λ_ _ ag=>trivial) sz3 ag3 rfl rfl Õ (vI z.f_to) rfl wz (aI rC rfl 1 rfl wz (aH 8 2 (.inr (by kernel_rfl)) (λ_ _ ag=>⟨.inl ⟨rfl,rfl⟩,trivial⟩) sz3 ag3 rfl rfl (vI f.f_to) rfl wz (qm (vI (jc z.f_to f.f_to)) rfl (.inr rfl) wz ?_)))
       obtain ⟨_,Ë,h⟩:=bind_some h
       refine jv mG rfl rfl (fF Ë) (dC Ë) wz (aI rC rfl 1 rfl wz ?_)
       obtain ⟨P,Ö,h⟩:=bind_some h
       refine vC 12 (.inr (by kernel_rfl)) (λ_ _ ag=>⟨.inr (.inr (by kernel_rfl)),⟨.inr (.inr (by kernel_rfl)),trivial⟩⟩) 1 sz3 rfl rfl Ö (⟨P.f_from,(jc z.f_to f.f_to)⟩:Run) rfl wz (fK (v':=(gV c 2 (a.set (0+((w64 ((a.length:Int)-1))).toNat) (⟨P.f_from,(jc z.f_to f.f_to)⟩:Run)))) 8 rfl (kW (by simp)) (fK (v':=(gV c 2 (a.set (0+((w64 ((a.length:Int)-1))).toNat) (⟨P.f_from,(jc z.f_to f.f_to)⟩:Run)))) 66 rfl (kW (by simp)) (fK (v':=(gV c 2 (a.set (0+((w64 ((a.length:Int)-1))).toNat) (⟨P.f_from,(jc z.f_to f.f_to)⟩:Run)))) 68 rfl (kW (by simp)) (af ?_))))
       obtain rfl:=ae h
       exact aW c trivial rfl (aK rfl)
      ·refine ay rfl Z (au (aa (gV c 2 a) (aH 0 2 il ft ou xG rfl rfl (.d (.agg (Run.enc f))) rfl wz (gL (([f]:List Run).map Run.enc) mG Nw rfl rfl rfl rfl rfl wz ?_))))
       obtain ⟨Ï,Ù,h⟩:=bind_some h
       refine jr 0 il ft (i:=1) Ct Ct ou MP rfl (by decide) Ng (by decide) (λ_=>rfl) rfl rfl rfl Ù wz (λÍ=>aa (gV Í 2 Ï) (af ?_))
       obtain rfl:=ae h
       exact aW Í trivial rfl (aK rfl)
     ·rintro M _ O F m n
      refine aR _ m n (au (dS (bC A Ñ) wz rfl (aa (vI ((w+1:Nat):Int)) (af ?_))))
      obtain rfl:=ae E
      exact aZ (w+1,Ã,È,M) ⟨I,aV A⟩ (ls_ _) rfl (aK rfl)
  ·rintro ⟨a,c⟩ Â O F m n
   subst Â
   refine aR _ m n (ai (aa (gV c 2 a) (aa (gV c 2 a) (af (fQ 1 rfl (dx 4 1 rfl rfl (dx 8 1 rfl rfl (dx 83 1 rfl rfl ?_))))))))
   obtain rfl:=ae q
   exact aC (aO [(vL Run.enc a)] ⟨rfl,trivial⟩)
theorem DW {c:(List Run)} {f:(List Run)} {r:(List Run)} (O:qz c f=some r) :
  FnM Tryz.prog 72 [(vL Run.enc c),(vL Run.enc f)] [] (vL Run.enc r) []:=by
 refine FnM.of_wH ⟨Tryz.prog,88,[],[]⟩ rfl Tryz.func72 rfl rfl (lb_ rfl) (by kernel_rfl) ?_
 unfold qz at O
 refine ai (aa .nil (af (ai (aa .nil (af (ai (aa (vI 0) (af (ak (ai (aa (vL Run.enc c) (bQ yQ rfl wz (aa (vI 0) (af (jJ (λÔ => ?_))))))))))))))))
 obtain ⟨Ø,Á,O⟩:=bind_some O
 obtain ⟨Ì,Á⟩:=bn Á
 refine fV (σ:=(List Run)×Int) (N:=Nm) (λp=>(λ(g:(List Run)×Int) (h:Nm)=>([(5,(gV h 2 g.1))]:SL_)) p.1 p.2) (λp=>(λ(g:(List Run)×Int) (h:Nm)=>([(h,gB 2 Run.enc g.1)]:Hp)) p.1 p.2) (λ(l:Nat)=>(λp=>(λ(g:(List Run)×Int) (h:Nm)=>([(1,(vL Run.enc f)),(5,(gV h 2 g.1)),(6,(vI g.2)),(10,(vL Run.enc c)),(11,(vI (c.length:Int))),(12,(vI (l:Int)))]:SL_)) p.1 p.2)) (λk x s=>ma f k x s) Ø c ((([]:List Run),0),Ô) Á rfl (aK rfl) ?_ ?_
 ·rintro ⟨l,Ä,g,h⟩ ⟨G,B⟩
  dsimp only at G B
  cases Ä with
  | nil =>
   obtain rfl:=ae G
   refine ai (aa (vB (decide ((l:Int)<(c.length:Int)))) (af ?_))
   refine ak (ay rfl (drop_nil B) (aY ?_))
   exact aW (g,h) rfl rfl (aK rfl)
  | cons b Ä =>
   obtain ⟨Ç,u,G⟩:=bind_some G
   refine ai (aa (vB (decide ((l:Int)<(c.length:Int)))) (af ?_))
   refine ak (aA rfl (bE B) (ax ?_))
   unfold ma at u
   refine ak (aQ (ai (dI mG rfl rfl (bN B) rfl wz (bH ou xG rfl (.d (.agg (Run.enc b))) rfl wz (dz 0 (.inl rfl) MP rfl wz (λq=>gp 0 il ft 1 ou rfl rfl [(vI b.f_from),(vI b.f_to)] rfl wz (af (ak ?_))))))))
   obtain ⟨Ù,Â,u⟩:=bind_some u
   obtain ⟨Ö,Â⟩:=bW Â
   refine dY (λ(e:Int)=>[(1,(vL Run.enc f)),(5,(gV h 2 g.1)),(6,(vI e)),(8,(.ref q 0 0)),(10,(vL Run.enc c)),(11,(vI (c.length:Int))),(12,(vI (l:Int)))]) (λ(e:Int)=>[(h,gB 2 Run.enc g.1),(q,some (.cells 2 [(vI b.f_from),(vI b.f_to)]))]) (λ(P:Nat)=>(λ(e:Int)=>[(1,(vL Run.enc f)),(5,(gV h 2 g.1)),(6,(vI e)),(8,(.ref q 0 0)),(10,(vL Run.enc c)),(11,(vI (c.length:Int))),(12,(vI (l:Int)))])) (λs=>oH f b s) Ù Ö g.2 Â rfl (aK rfl) ?_ ?_
   ·rintro ⟨P,e⟩ C
    dsimp only at C
    cases P with
    | zero=>cases C
    | succ P =>
     obtain ⟨Ç,v,C⟩:=bind_some C
     unfold oH at v
     refine ak (ak ?_)
     obtain ⟨Û,w,v⟩:=bind_some v
     refine aU [(1,(vL Run.enc f)),(5,(gV h 2 g.1)),(6,(vI e)),(8,(.ref q 0 0)),(10,(vL Run.enc c)),(11,(vI (c.length:Int))),(12,(vI (l:Int))),(29,(vB Û))] [(h,gB 2 Run.enc g.1),(q,some (.cells 2 [(vI b.f_from),(vI b.f_to)]))] ?_ ?_
     ·refine bv (aa (vI e) (aa (vL Run.enc f) (bQ yQ rfl wz (aa (vB (decide (e<(f.length:Int)))) ?_))))
      rcases aj w with⟨U,w⟩|⟨U,w⟩
      ·refine aB rfl U wz (aL (vL Run.enc f) wa rfl (aL (vI e) wa rfl ?_))
       obtain ⟨R,Í,w⟩:=bind_some w
       refine dI mG rfl rfl Í rfl wa (lQ rC rfl [.int .i64 R.f_to] rfl rfl wa (bH sz3 ag3 rfl (vI R.f_to) rfl wa (aI lV rfl 0 rfl wa (aH 11 1 (.inr (by kernel_rfl)) (λ_ _ ag=>trivial) sz3 ag3 rfl rfl (vI b.f_from) rfl wa (aL (vB (decide (R.f_to<=b.f_from))) wa rfl (aa (vB (decide (R.f_to<=b.f_from))) (af ?_)))))))
       obtain rfl:=ae w
       exact cu
      ·refine aB rfl U wz (ah (ah (ah (ah (ah (ah (ah (ah (aa (vB false) (af ?_))))))))))
       obtain rfl:=ae w
       exact cu
     ·rintro ⟨⟩ _ F A n o
      refine aR _ n o ?_
      rcases aj v with⟨W,v⟩|⟨W,v⟩
      ·refine aA rfl W (ax (aQ (au (aa (vI e) (aa (vI (w64 (e+1))) (aa (vI (w64 (e+1))) (af ?_)))))))
       obtain rfl:=ae v
       exact aZ (P,(w64 (e+1))) C (ls_ _) rfl (aK rfl)
      ·refine ay rfl W (aY ?_)
       obtain rfl:=ae v
       obtain rfl:=ae C
       exact aW (e) rfl rfl (aK rfl)
   ·rintro e H F A n o
    subst H
    refine aR _ n o (ak (ai (aa (vI e) (aa (vI e) (af ?_)))))
    obtain ⟨Ú,Ã,u⟩:=bind_some u
    obtain ⟨Õ,Ã⟩:=bW Ã
    refine xn (σ:=(List Run)×Int×Int) (N:=Nm) (λp=>(λ(a:(List Run)×Int×Int) (m:Nm)=>([(1,(vL Run.enc f)),(5,(gV m 2 a.1)),(6,(vI e)),(8,(.ref q 0 0)),(10,(vL Run.enc c)),(11,(vI (c.length:Int))),(12,(vI (l:Int)))]:SL_)) p.1 p.2) (λp=>(λ(a:(List Run)×Int×Int) (m:Nm)=>([(m,gB 2 Run.enc a.1),(q,some (.cells 2 [(vI a.2.2),(vI b.f_to)]))]:Hp)) p.1 p.2) (λ(Q:Nat)=>(λp=>(λ(a:(List Run)×Int×Int) (m:Nm)=>([(1,(vL Run.enc f)),(5,(gV m 2 a.1)),(6,(vI e)),(8,(.ref q 0 0)),(9,(vI a.2.1)),(10,(vL Run.enc c)),(11,(vI (c.length:Int))),(12,(vI (l:Int)))]:SL_)) p.1 p.2)) (λs=>o5 f b s) Ú Õ ((g.1,e,b.f_from),h) Ã rfl (aK rfl) ?_ ?_
    ·rintro ⟨Q,a,m⟩ E
     dsimp only at E
     cases Q with
     | zero=>cases E
     | succ Q =>
      obtain ⟨Ç,j,E⟩:=bind_some E
      unfold o5 at j
      refine ak (ak ?_)
      obtain ⟨Ü,y,j⟩:=bind_some j
      refine aU [(1,(vL Run.enc f)),(5,(gV m 2 a.1)),(6,(vI e)),(8,(.ref q 0 0)),(9,(vI a.2.1)),(10,(vL Run.enc c)),(11,(vI (c.length:Int))),(12,(vI (l:Int))),(46,(vB Ü))] [(m,gB 2 Run.enc a.1),(q,some (.cells 2 [(vI a.2.2),(vI b.f_to)]))] ?_ ?_
      ·refine bv (aa (vI a.2.1) (aa (vL Run.enc f) (bQ yQ rfl wz (aa (vB (decide (a.2.1<(f.length:Int)))) ?_))))
       rcases aj y with⟨X,y⟩|⟨X,y⟩
       ·refine aB rfl X wz (aL (vL Run.enc f) wa rfl (aL (vI a.2.1) wa rfl ?_))
        obtain ⟨K,Î,y⟩:=bind_some y
        refine dI mG rfl rfl Î rfl wa (lQ lV rfl [.int .i64 K.f_from,.int .i64 K.f_to] rfl rfl wa (bH sz3 ag3 rfl (vI K.f_from) rfl wa (aI rC rfl 1 rfl wa (aH 11 1 (.inr (by kernel_rfl)) (λ_ _ ag=>trivial) sz3 ag3 rfl rfl (vI b.f_to) rfl wa (aL (vB (decide (K.f_from<b.f_to))) wa rfl (aa (vB (decide (K.f_from<b.f_to))) (af ?_)))))))
        obtain rfl:=ae y
        exact cu
       ·refine aB rfl X wz (ah (ah (ah (ah (ah (ah (ah (ah (aa (vB false) (af ?_))))))))))
        obtain rfl:=ae y
        exact cu
      ·rintro ⟨⟩ _ F A n o
       refine aR _ n o ?_
       rcases aj j with⟨Y,j⟩|⟨Y,j⟩
       ·refine aA rfl Y (ax (ak (aQ (ak (ak (bv (aa (vL Run.enc f) (aa (vI a.2.1) ?_))))))))
        obtain ⟨T,Ï,j⟩:=bind_some j
        refine dI mG rfl rfl Ï rfl wz (lQ lV rfl [.int .i64 T.f_from,.int .i64 T.f_to] rfl rfl wz (bH sz3 ag3 rfl (vI T.f_from) rfl wz (aI lV rfl 0 rfl wz (aH 6 1 (.inr (by kernel_rfl)) (λ_ _ ag=>trivial) sz3 ag3 rfl rfl (vI a.2.2) rfl wz (aa (vB (decide (T.f_from>a.2.2))) (af ?_))))))
        obtain ⟨Å,t,j⟩:=bind_some j
        refine kr (β:=Nm) (λ(I:Nm)=>([(1,(vL Run.enc f)),(5,(gV I 2 Å)),(6,(vI e)),(8,(.ref q 0 0)),(9,(vI a.2.1)),(10,(vL Run.enc c)),(11,(vI (c.length:Int))),(12,(vI (l:Int)))]:SL_)) (λ(I:Nm)=>([(I,gB 2 Run.enc Å),(q,some (.cells 2 [(vI a.2.2),(vI b.f_to)]))]:Hp)) (λ_=>True) ?_ ?_
        ·rcases aj t with⟨Z,t⟩|⟨Z,t⟩
         ·refine aA rfl Z (bv (aa (gV m 2 a.1) (aI lV rfl 0 rfl wz (aH 2 1 (.inr (by kernel_rfl)) (λ_ _ ag=>trivial) sz3 ag3 rfl rfl (vI a.2.2) rfl wz (aa (vL Run.enc f) (aa (vI a.2.1) ?_))))))
          obtain ⟨L,Ð,t⟩:=bind_some t
          refine dI mG rfl rfl Ð rfl wz (lQ lV rfl [.int .i64 L.f_from,.int .i64 L.f_to] rfl rfl wz (bH sz3 ag3 rfl (vI L.f_from) rfl wz (aL (.d (.agg (Run.enc (⟨a.2.2,L.f_from⟩:Run)))) wz (by kernel_rfl) (gL (([(⟨a.2.2,L.f_from⟩:Run)]:List Run).map Run.enc) mG Nw rfl rfl rfl rfl rfl wz ?_))))
          obtain ⟨Ê,Ò,t⟩:=bind_some t
          refine jr 10 (.inr (by kernel_rfl)) (λ_ _ ag=>⟨.inr (.inr (by kernel_rfl)),trivial⟩) (i:=0) Ct Ct ou MP rfl (by decide) Ng (by decide) (λ_=>rfl) rfl rfl rfl Ò wz (λÈ=>aa (gV È 2 Ê) (af ?_))
          obtain rfl:=ae t
          exact aW È trivial rfl (aK rfl)
         ·refine ay rfl Z (ax ?_)
          obtain rfl:=ae t
          exact aW m trivial rfl (aK rfl)
        ·rintro I _ F A n o
         refine aR _ n o (bv (aI lV rfl 0 rfl wz (aH 1 1 (.inr (by kernel_rfl)) (λ_ _ ag=>trivial) sz3 ag3 rfl rfl (vI a.2.2) rfl wz (aa (vL Run.enc f) (aa (vI a.2.1) ?_)))))
         obtain ⟨M,Ñ,j⟩:=bind_some j
         refine dI mG rfl rfl Ñ rfl wz (lQ rC rfl [.int .i64 M.f_to] rfl rfl wz (bH sz3 ag3 rfl (vI M.f_to) rfl wz (qm (vI (jc a.2.2 M.f_to)) rfl (.inr rfl) wz (aI lV rfl 0 rfl wz (gp 9 (.inr (by kernel_rfl)) (λ_ _ ag=>⟨.inr (.inr (by kernel_rfl)),trivial⟩) 1 sz3 rfl rfl [(vI (jc a.2.2 M.f_to)),(vI b.f_to)] rfl wz (af (au (aa (vI a.2.1) (aa (vI (w64 (a.2.1+1))) (aa (vI (w64 (a.2.1+1))) (af ?_)))))))))))
         obtain rfl:=ae j
         exact aZ (Q,(Å,(w64 (a.2.1+1)),(jc a.2.2 M.f_to)),I) E (ls_ _) rfl (aK rfl)
       ·refine ay rfl Y (aY ?_)
        obtain rfl:=ae j
        obtain rfl:=ae E
        exact aW ((a.1,a.2.1,a.2.2),m) rfl rfl (aK rfl)
    ·rintro ⟨a,m⟩ H F A n o
     subst H
     refine aR _ n o (ai (aI lV rfl 0 rfl wz (aH 0 1 il ft sz3 ag3 rfl rfl (vI a.2.2) rfl wz (aI rC rfl 1 rfl wz (aH 0 1 il ft sz3 ag3 rfl rfl (vI b.f_to) rfl wz (aa (vB (decide (a.2.2<b.f_to))) (af ?_)))))))
     obtain ⟨Æ,z,u⟩:=bind_some u
     refine kr (β:=Nm) (λ(J:Nm)=>([(1,(vL Run.enc f)),(5,(gV J 2 Æ)),(6,(vI e)),(10,(vL Run.enc c)),(11,(vI (c.length:Int))),(12,(vI (l:Int)))]:SL_)) (λ(J:Nm)=>([(J,gB 2 Run.enc Æ),(q,some (.cells 2 [(vI a.2.2),(vI b.f_to)]))]:Hp)) (λ_=>True) ?_ ?_
     ·rcases aj z with⟨À,z⟩|⟨À,z⟩
      ·refine aA rfl À (au (aa (gV m 2 a.1) (aH 0 1 il ft ou xG rfl rfl (.d (.agg (Run.enc (⟨a.2.2,b.f_to⟩:Run)))) rfl wz (gL (([(⟨a.2.2,b.f_to⟩:Run)]:List Run).map Run.enc) mG Nw rfl rfl rfl rfl rfl wz ?_))))
       obtain ⟨Ë,Ó,z⟩:=bind_some z
       refine jr 0 il ft (i:=0) Ct Ct ou MP rfl (by decide) Ng (by decide) (λ_=>rfl) rfl rfl rfl Ó wz (λÉ=>aa (gV É 2 Ë) (af ?_))
       obtain rfl:=ae z
       exact aW É trivial rfl (aK rfl)
      ·refine ay rfl À (ax ?_)
       obtain rfl:=ae z
       exact aW m trivial rfl (aK rfl)
     ·rintro J _ F A n o
      refine aR _ n o (au (dS (bC B Ì) wz rfl (aa (vI ((l+1:Nat):Int)) (af ?_))))
      obtain rfl:=ae u
      exact aZ (l+1,Ä,(Æ,e),J) ⟨G,aV B⟩ (ls_ _) rfl (aK rfl)
 ·rintro ⟨g,h⟩ H F A n o
  subst H
  refine aR _ n o (ai (aa (gV h 2 g.1) (aa (gV h 2 g.1) (af (fQ 0 rfl (dx 4 0 rfl rfl (dx 5 0 rfl rfl (dx 87 0 rfl rfl ?_))))))))
  obtain rfl:=ae O
  exact aC (aO [(vL Run.enc g.1)] ⟨rfl,trivial⟩)
theorem mV {s1_1:(List Run)} {s2_2:(List Run)} {r:Bool} (b:dR s1_1 s2_2=some r) :
  FnM Tryz.prog 74 [(vL Run.enc s1_1),(vL Run.enc s2_2)] [] (vB r) []:=by
 refine FnM.of_wH ⟨Tryz.prog,26,[],[]⟩ rfl Tryz.func74 rfl rfl (lb_ rfl) (by kernel_rfl) ?_
 unfold dR at b
 refine ai (aa (vB false) (af (ak (ai (aa (vL Run.enc s1_1) (bQ yQ rfl wz (aa (vL Run.enc s2_2) (bQ yQ rfl wz (aa (vB ((s1_1.length:Int) != (s2_2.length:Int))) (af ?_))))))))))
 rcases aj b with⟨i,b⟩|⟨i,b⟩
 ·refine aA rfl i (ai (aa (vB false) (af ?_)))
  obtain rfl:=ae b
  exact aC (aO [(vB false)] ⟨rfl,trivial⟩)
 ·refine ay rfl i (ax (ak (ai (aa (vL Run.enc s1_1) (bQ yQ rfl wz (aa (vI 0) (af ?_)))))))
  obtain ⟨v,j,b⟩:=bind_some b
  obtain ⟨o,j⟩:=bn j
  refine dB (λ(g:Unit)=>[]) (λ(g:Unit)=>[]) (λ(a:Nat)=>(λ(g:Unit)=>[(0,(vL Run.enc s1_1)),(1,(vL Run.enc s2_2)),(12,(vI (s1_1.length:Int))),(13,(vI (a:Int)))])) (λk x s=>fo s2_2 k x s) v s1_1 () j rfl (aK rfl) ?_ ?_
  ·rintro ⟨a,l,g⟩ ⟨f,e⟩
   dsimp only at f e
   cases l with
   | nil =>
    obtain rfl:=ae f
    refine ai (aa (vB (decide ((a:Int)<(s1_1.length:Int)))) (af ?_))
    refine ak (ay rfl (drop_nil e) (aY ?_))
    exact aW (g) rfl rfl (aK rfl)
   | cons m l =>
    obtain ⟨y,c,f⟩:=bind_some f
    refine ai (aa (vB (decide ((a:Int)<(s1_1.length:Int)))) (af ?_))
    refine ak (aA rfl (bE e) (ax ?_))
    unfold fo at c
    refine ak (aQ (ai (aa (vI (a:Int)) (aa (vI (a:Int)) (af (ak (bv (aa (vL Run.enc s1_1) (aa (vI (a:Int)) (dI mG rfl rfl (bN e) rfl wz (bH ou xG rfl (.d (.agg (Run.enc m))) rfl wz (aa (vL Run.enc s2_2) (aa (vI (a:Int)) ?_)))))))))))))
    obtain ⟨n,u,c⟩:=bind_some c
    refine dI mG rfl rfl u rfl wz (bH ou xG rfl (.d (.agg (Run.enc n))) rfl wz (aL (vB (!((m.f_from==n.f_from)&&((m.f_to==n.f_to)&&true)))) wz (by kernel_rfl) (af ?_)))
    rcases aj c with⟨h,c⟩|⟨h,c⟩
    ·refine aA rfl h (ai (aa (vB false) (af ?_)))
     obtain rfl:=ae c
     obtain rfl:=ae f
     obtain rfl:=ae b
     exact aC (aO [(vB false)] ⟨rfl,trivial⟩)
    ·refine ay rfl h (ax (au (dS (bC e o) wz rfl (aa (vI ((a+1:Nat):Int)) (af ?_)))))
     obtain rfl:=ae c
     exact aZ (a+1,l,()) ⟨f,aV e⟩ (ls_ _) rfl (aK rfl)
  ·rintro g p z w q t
   subst p
   refine aR _ q t (ai (aa (vB true) (af ?_)))
   obtain rfl:=ae b
   exact aC (aO [(vB true)] ⟨rfl,trivial⟩)
theorem BD {m:(List Rect)} {n:(List Rect)} {r:(List Rect)} (g:nO m n=some r) :
  FnM Tryz.prog 43 [(vL Rect.enc m),(vL Rect.enc n)] [] (vL Rect.enc r) []:=by
 refine FnM.of_wH ⟨Tryz.prog,88,[],[]⟩ rfl Tryz.func43 rfl rfl (lb_ rfl) (by kernel_rfl) ?_
 unfold nO at g
 refine ai (aa .nil (af (ai (aa .nil (af (ak (ai (aa (vL Rect.enc m) (aa (vL Rect.enc n) (gL (([m,n]:List (List Rect)).map (eL Rect.enc)) Rx ez168 rfl rfl rfl rfl rfl wz ?_))))))))))
 obtain ⟨O,Ï,g⟩:=bind_some g
 refine aG (og Ï) rfl hb70 rfl rfl rfl rfl wz (bQ IM rfl wz (aa (vI 0) (af (jJ (λÖ => ?_)))))
 obtain ⟨Ù,Z,g⟩:=bind_some g
 obtain ⟨Ì,Z⟩:=bn Z
 refine fV (σ:=(List Int)) (N:=Nm) (λp=>(λ(t:List Int) (c:Nm)=>([(0,(vL Rect.enc m)),(1,(vL Rect.enc n)),(5,(gV c 1 t))]:SL_)) p.1 p.2) (λp=>(λ(t:List Int) (c:Nm)=>([(c,gB 1 eI t)]:Hp)) p.1 p.2) (λ(G:Nat)=>(λp=>(λ(t:List Int) (c:Nm)=>([(0,(vL Rect.enc m)),(1,(vL Rect.enc n)),(5,(gV c 1 t)),(19,(vL Rect.enc O)),(20,(vI (O.length:Int))),(21,(vI (G:Int)))]:SL_)) p.1 p.2)) (λk x s=>mR k x s) Ù O (([]:List Int),Ö) Z rfl (aK rfl) ?_ ?_
 ·rintro ⟨G,Ã,t,c⟩ ⟨J,E⟩
  dsimp only at J E
  cases Ã with
  | nil =>
   obtain rfl:=ae J
   refine ai (aa (vB (decide ((G:Int)<(O.length:Int)))) (af ?_))
   refine ak (ay rfl (drop_nil E) (aY ?_))
   exact aW (t,c) rfl rfl (aK rfl)
  | cons w Ã =>
   obtain ⟨Ç,P,J⟩:=bind_some J
   refine ai (aa (vB (decide ((G:Int)<(O.length:Int)))) (af ?_))
   refine ak (aA rfl (bE E) (ax ?_))
   unfold mR at P
   refine ak (aQ (ai (dI Pt rfl rfl (bN E) rfl wz (bH BK QA rfl (.d (.agg (Rect.enc w))) rfl wz (dz 0 (.inl rfl) z76 rfl wz (λÝ=>gp 0 il ft 1 BK rfl rfl (Rect.v w) rfl wz (af (au (aa (gV c 1 t) (aI Cg rfl 1 rfl wz (aH 0 1 il ft sz3 ag3 rfl rfl (vI w.Y) rfl wz (aI Cg rfl 1 rfl wz (aH 0 1 il ft sz3 ag3 rfl rfl (vI w.Y) rfl wz (aI Iq rfl 3 rfl wz (aH 0 1 il ft sz3 ag3 rfl rfl (vI w.H) rfl wz (aa (vI (w64 (w.Y+w.H))) (gL (([w.Y,(w64 (w.Y+w.H))]:List Int).map eI) ic AV rfl rfl rfl rfl rfl wz ?_)))))))))))))))))
   obtain ⟨Å,Ô,P⟩:=bind_some P
   refine jr 0 il ft (i:=0) Bh Bh sz3 z3 rfl (by decide) by3 (by decide) (λ_=>rfl) rfl rfl rfl Ô wz (λÉ=>aa (gV É 1 Å) (af (au (dS (bC E Ì) wz rfl (aa (vI ((G+1:Nat):Int)) (af ?_))))))
   obtain rfl:=ae P
   exact aZ (G+1,Ã,Å,É) ⟨J,aV E⟩ (ls_ _) rfl (aK rfl)
 ·rintro ⟨t,c⟩ L Ä U z A
  subst L
  refine aR _ z A (ai (aa (gV c 1 t) ?_))
  obtain ⟨T,Í,g⟩:=bind_some g
  obtain ⟨_,M,g⟩:=bind_some g
  replace M:=lH M
  refine qb 0 [] 0 0 il ft (ni Í) rfl hb33 rfl rfl rfl (by kernel_rfl) rfl (.inl rfl) rfl (by kernel_rfl) (by kernel_rfl) (by kernel_rfl) (by kernel_rfl) rfl (by decide) (by kernel_rfl) q8 (A9 M) wz ([(c,gB 1 eI T)]:Hp) (by kernel_rfl) (fK (v':=(gV c 1 T)) 36 rfl (kW M.symm) (fK (v':=(gV c 1 T)) 5 rfl (kW M.symm) (af (ai (aa (gV c 1 T) ?_)))))
  obtain ⟨b,Î,g⟩:=bind_some g
  refine qb 0 [] 0 0 il ft (qR Î) rfl hb71 rfl rfl rfl (by kernel_rfl) rfl (.inl rfl) rfl (by kernel_rfl) (by kernel_rfl) (by kernel_rfl) (by kernel_rfl) rfl (by decide) (by kernel_rfl) Dz (λ_=>rfl) wz ([(c,none)]:Hp) (by kernel_rfl) (aa (vL eI b) (af (ai (aa .nil (af (ai (aa .nil (af (ai (aa (vI 0) (af (ak (ai (aa (vL eI b) (bQ ug rfl wz (aa (vI 0) (af (DD Run.enc 9 rfl (jJ (λØ => ?_))))))))))))))))))))
  obtain ⟨Ú,À,g⟩:=bind_some g
  obtain ⟨È,À⟩:=bn À
  refine fV (σ:=(List Rect)×(List Run)×Int) (N:=Nm) (λp=>(λ(a:(List Rect)×(List Run)×Int) (h:Nm)=>([(8,(gV h 4 a.1))]:SL_)) p.1 p.2) (λp=>(λ(a:(List Rect)×(List Run)×Int) (h:Nm)=>([(c,none),(h,gB 4 Rect.enc a.1)]:Hp)) p.1 p.2) (λ(e:Nat)=>(λp=>(λ(a:(List Rect)×(List Run)×Int) (h:Nm)=>([(0,(vL Rect.enc m)),(1,(vL Rect.enc n)),(5,(vL eI b)),(8,(gV h 4 a.1)),(9,(vL Run.enc a.2.1)),(10,(vI a.2.2)),(40,(vL eI b)),(41,(vI (b.length:Int))),(42,(vI (e:Int)))]:SL_)) p.1 p.2)) (λk x s=>kC b m n k x s) Ú b ((([]:List Rect),([]:List Run),0),Ø) À rfl (aK rfl) ?_ ?_
  ·rintro ⟨e,R,a,h⟩ ⟨F,y⟩
   dsimp only at F y
   cases R with
   | nil =>
    obtain rfl:=ae F
    refine ai (aa (vB (decide ((e:Int)<(b.length:Int)))) (af ?_))
    refine ak (ay rfl (drop_nil y) (aY ?_))
    exact aW (a,h) rfl rfl (aK rfl)
   | cons f R =>
    obtain ⟨Ç,l,F⟩:=bind_some F
    refine ai (aa (vB (decide ((e:Int)<(b.length:Int)))) (af ?_))
    refine ak (aA rfl (bE y) (ax ?_))
    unfold kC at l
    refine ak (aQ (ai (aa (vI (e:Int)) (dI ic rfl rfl (bN y) rfl wz (bH sz3 ag3 rfl (vI f) rfl wz (aa (vI (e:Int)) (aa (vI f) (af (ai (aa .nil (af (ak (ai (aa (vI (e:Int)) (aa (vI (w64 ((e:Int)+1))) (aa (vL eI b) (bQ ug rfl wz (aa (vB (decide ((w64 ((e:Int)+1))<(b.length:Int)))) (af (DD Run.enc 13 rfl ?_))))))))))))))))))))
    obtain ⟨B,o,l⟩:=bind_some l
    refine aU [(0,(vL Rect.enc m)),(1,(vL Rect.enc n)),(5,(vL eI b)),(8,(gV h 4 a.1)),(9,(vL Run.enc a.2.1)),(10,(vI a.2.2)),(12,(vI f)),(13,(vL Run.enc B)),(40,(vL eI b)),(41,(vI (b.length:Int))),(42,(vI (e:Int)))] [(c,none),(h,gB 4 Rect.enc a.1)] ?_ ?_
    ·rcases aj o with⟨W,o⟩|⟨W,o⟩
     ·refine aA rfl W (au (aa (vL Rect.enc m) (aa (vI f) ?_)))
      obtain ⟨ß,Ð,o⟩:=bind_some o
      refine aG (xc Ð) rfl hb73 rfl rfl rfl rfl wz (aa (vL Rect.enc n) (aa (vI f) ?_))
      obtain ⟨à,Ñ,o⟩:=bind_some o
      refine aG (xc Ñ) rfl hb73 rfl rfl rfl rfl wz ?_
      obtain ⟨Ü,Ò,o⟩:=bind_some o
      refine aG (DW Ò) rfl hb72 rfl rfl rfl rfl wz (aa (vL Run.enc Ü) (af ?_))
      obtain rfl:=ae o
      exact cu
     ·refine ay rfl W (ax ?_)
      obtain rfl:=ae o
      exact cu
    ·rintro ⟨⟩ _ Ä U z A
     refine aR _ z A (ak (ai (aa (vL Run.enc a.2.1) (aa (vL Run.enc B) ?_))))
     obtain ⟨á,Ó,l⟩:=bind_some l
     refine aG (mV Ó) rfl hb74 rfl rfl rfl rfl wz (af ?_)
     rcases aj l with⟨X,l⟩|⟨X,l⟩
     ·refine aA rfl X (aY (au (dS (bC y È) wz rfl (aa (vI ((e+1:Nat):Int)) (af ?_)))))
      obtain rfl:=ae l
      exact aZ (e+1,R,(a.1,a.2.1,a.2.2),h) ⟨F,aV y⟩ (ls_ _) rfl (aK rfl)
     ·refine ay rfl X (ax (ak (ai (aa (vL Run.enc a.2.1) (bQ yQ rfl wz (aa (vI 0) (af ?_)))))))
      obtain ⟨Û,Á,l⟩:=bind_some l
      obtain ⟨Ë,Á⟩:=bn Á
      refine fV (σ:=(List Rect)) (N:=Nm) (λp=>(λ(u:List Rect) (q:Nm)=>([(0,(vL Rect.enc m)),(1,(vL Rect.enc n)),(5,(vL eI b)),(8,(gV q 4 u)),(12,(vI f)),(13,(vL Run.enc B)),(40,(vL eI b)),(41,(vI (b.length:Int))),(42,(vI (e:Int)))]:SL_)) p.1 p.2) (λp=>(λ(u:List Rect) (q:Nm)=>([(c,none),(q,gB 4 Rect.enc u)]:Hp)) p.1 p.2) (λ(I:Nat)=>(λp=>(λ(u:List Rect) (q:Nm)=>([(0,(vL Rect.enc m)),(1,(vL Rect.enc n)),(5,(vL eI b)),(8,(gV q 4 u)),(10,(vI a.2.2)),(12,(vI f)),(13,(vL Run.enc B)),(40,(vL eI b)),(41,(vI (b.length:Int))),(42,(vI (e:Int))),(62,(vL Run.enc a.2.1)),(63,(vI (a.2.1.length:Int))),(64,(vI (I:Int)))]:SL_)) p.1 p.2)) (λk x s=>mQ a f k x s) Û a.2.1 (a.1,h) Á rfl (aK rfl) ?_ ?_
      ·rintro ⟨I,Â,u,q⟩ ⟨K,C⟩
       dsimp only at K C
       cases Â with
       | nil =>
        obtain rfl:=ae K
        refine ai (aa (vB (decide ((I:Int)<(a.2.1.length:Int)))) (af ?_))
        refine ak (ay rfl (drop_nil C) (aY ?_))
        exact aW (u,q) rfl rfl (aK rfl)
       | cons j Â =>
        obtain ⟨Ç,Q,K⟩:=bind_some K
        refine ai (aa (vB (decide ((I:Int)<(a.2.1.length:Int)))) (af ?_))
        refine ak (aA rfl (bE C) (ax ?_))
        unfold mQ at Q
        refine ak (aQ (ai (dI mG rfl rfl (bN C) rfl wz (bH ou xG rfl (.d (.agg (Run.enc j))) rfl wz (dz 0 (.inl rfl) MP rfl wz (λÞ=>gp 0 il ft 2 ou rfl rfl [(vI j.f_from),(vI j.f_to)] rfl wz (af (au (aa (gV q 4 u) (aI lV rfl 0 rfl wz (aH 0 2 il ft sz3 ag3 rfl rfl (vI j.f_from) rfl wz (aa (vI a.2.2) (aI rC rfl 1 rfl wz (aH 0 2 il ft sz3 ag3 rfl rfl (vI j.f_to) rfl wz (aI lV rfl 0 rfl wz (aH 0 2 il ft sz3 ag3 rfl rfl (vI j.f_from) rfl wz (aa (vI (w64 (j.f_to-j.f_from))) (aa (vI f) (aa (vI a.2.2) (aa (vI (w64 (f-a.2.2))) (aL (.d (.agg (Rect.enc (⟨j.f_from,a.2.2,(w64 (j.f_to-j.f_from)),(w64 (f-a.2.2))⟩:Rect)))) wz (by kernel_rfl) (gL (([(⟨j.f_from,a.2.2,(w64 (j.f_to-j.f_from)),(w64 (f-a.2.2))⟩:Rect)]:List Rect).map Rect.enc) Pt ez77 rfl rfl rfl rfl rfl wz ?_))))))))))))))))))))))
        obtain ⟨Æ,Õ,Q⟩:=bind_some Q
        refine jr 0 il ft (i:=1) LD LD BK z76 rfl (by decide) by76 (by decide) (λ_=>rfl) rfl rfl rfl Õ wz (λÊ=>aa (gV Ê 4 Æ) (af (au (dS (bC C Ë) wz rfl (aa (vI ((I+1:Nat):Int)) (af ?_))))))
        obtain rfl:=ae Q
        exact aZ (I+1,Â,Æ,Ê) ⟨K,aV C⟩ (ls_ _) rfl (aK rfl)
      ·rintro ⟨u,q⟩ L Ä U z A
       subst L
       refine aR _ z A (au (aa (vL Run.enc B) (aa (vI f) (aa (vL Run.enc B) (aa (vI f) (af (au (dS (bC y È) wz rfl (aa (vI ((e+1:Nat):Int)) (af ?_))))))))))
       obtain rfl:=ae l
       exact aZ (e+1,R,(u,B,f),q) ⟨F,aV y⟩ (ls_ _) rfl (aK rfl)
  ·rintro ⟨a,h⟩ L Ä U z A
   subst L
   refine aR _ z A (ai (aa (gV h 4 a.1) (aa (gV h 4 a.1) (af (fQ 1 rfl (dx 4 1 rfl rfl (dx 8 1 rfl rfl (dx 87 1 rfl rfl ?_))))))))
   obtain rfl:=ae g
   exact aC (aO [(vL Rect.enc a.1)] ⟨rfl,trivial⟩)
theorem ED {c:(List Rect)} {r:Int} (h:tX c=some r) :
  FnM Tryz.prog 42 [(vL Rect.enc c)] [] (vI r) []:=by
 refine FnM.of_wH ⟨Tryz.prog,21,[],[]⟩ rfl Tryz.func42 rfl rfl (lb_ rfl) (by kernel_rfl) ?_
 unfold tX at h
 refine ai (aa (vI 0) (af (ai (aa (vI 0) (af (ak (ai (aa (vL Rect.enc c) (bQ IM rfl wz (aa (vI 0) (af ?_)))))))))))
 obtain ⟨q,i,h⟩:=bind_some h
 obtain ⟨m,i⟩:=bn i
 refine dB (λ(a:Int)=>[(3,(vI a))]) (λ(a:Int)=>[]) (λ(f:Nat)=>(λ(a:Int)=>[(3,(vI a)),(6,(vL Rect.enc c)),(7,(vI (c.length:Int))),(8,(vI (f:Int)))])) (λk x s=>sD k x s) q c 0 i rfl (aK rfl) ?_ ?_
 ·rintro ⟨f,j,a⟩ ⟨g,e⟩
  dsimp only at g e
  cases j with
  | nil =>
   obtain rfl:=ae g
   refine ai (aa (vB (decide ((f:Int)<(c.length:Int)))) (af ?_))
   refine ak (ay rfl (drop_nil e) (aY ?_))
   exact aW (a) rfl rfl (aK rfl)
  | cons b j =>
   obtain ⟨u,l,g⟩:=bind_some g
   refine ai (aa (vB (decide ((f:Int)<(c.length:Int)))) (af ?_))
   refine ak (aA rfl (bE e) (ax ?_))
   unfold sD at l
   refine ak (aQ (ai (dI Pt rfl rfl (bN e) rfl wz (bH BK QA rfl (.d (.agg (Rect.enc b))) rfl wz (dz 0 (.inl rfl) z76 rfl wz (λw=>gp 0 il ft 0 BK rfl rfl (Rect.v b) rfl wz (af (au (aa (vI a) (aI MG rfl 2 rfl wz (aH 0 0 il ft sz3 ag3 rfl rfl (vI b.W) rfl wz (aI Iq rfl 3 rfl wz (aH 0 0 il ft sz3 ag3 rfl rfl (vI b.H) rfl wz (aa (vI (w64 (b.W*b.H))) (aa (vI (w64 (a+(w64 (b.W*b.H))))) (aa (vI (w64 (a+(w64 (b.W*b.H))))) (af (au (dS (bC e m) wz rfl (aa (vI ((f+1:Nat):Int)) (af ?_)))))))))))))))))))))
   obtain rfl:=ae l
   exact aZ (f+1,j,(w64 (a+(w64 (b.W*b.H))))) ⟨g,aV e⟩ (ls_ _) rfl (aK rfl)
 ·rintro a n y t o p
  subst n
  refine aR _ o p (ai (aa (vI a) (aa (vI a) (af ?_))))
  obtain rfl:=ae h
  exact aC (aO [(vI a)] ⟨rfl,trivial⟩)
theorem Fq {c:(List Rect)} {r:Int×Int} (a:qj c=some r) :
  FnM Tryz.prog 21 [(vL Rect.enc c)] [] (.tup [(vI r.1),(vI r.2)]) []:=by
 refine FnM.of_wH ⟨Tryz.prog,13,[],[]⟩ rfl Tryz.func21 rfl rfl (lb_ rfl) (by kernel_rfl) ?_
 unfold qj at a
 refine ai (aa (vI 0) (aa (vI 0) (af (ak (ai (aa (vL Rect.enc c) ?_))))))
 obtain ⟨b,f,a⟩:=bind_some a
 refine aG (xK f) rfl hb41 rfl rfl rfl rfl wz (aa (vI b) (af (ai (aa (vI b) (aa (vB (b != 0)) (af ?_))))))
 rcases aj a with⟨d,a⟩|⟨d,a⟩
 ·refine aA rfl d (ai (aa (vI b) (aa (vI 0) (aa (vI b) (af ?_)))))
  obtain rfl:=ae a
  exact aC (aO [(vI 0),(vI b)] ⟨rfl,⟨rfl,trivial⟩⟩)
 ·refine ay rfl d (ax (ai (aa (vL Rect.enc c) ?_)))
  obtain ⟨i,g,a⟩:=bind_some a
  refine aG (BD g) rfl hb43 rfl rfl rfl rfl wz ?_
  obtain ⟨e,h,a⟩:=bind_some a
  refine aG (ED h) rfl hb42 rfl rfl rfl rfl wz (aa (vI e) (aa (vI 0) (af ?_)))
  obtain rfl:=ae a
  exact aC (aO [(vI e),(vI 0)] ⟨rfl,⟨rfl,trivial⟩⟩)
theorem gD {a:Int} {r:Bool} (c:bR a=some r) :
  FnM Tryz.prog 32 [(vI a)] [] (vB r) []:=by
 refine FnM.of_wH ⟨Tryz.prog,9,[],[]⟩ rfl Tryz.func32 rfl rfl (lb_ rfl) (by kernel_rfl) ?_
 unfold bR at c
 refine ai (aa (vB false) (af (ak ?_)))
 obtain ⟨e,b,c⟩:=bind_some c
 refine aU [(2,(vB e))] [] ?_ ?_
 ·refine au (aa (vI a) (aa (vB (decide (a>=0))) ?_))
  rcases aj b with⟨d,b⟩|⟨d,b⟩
  ·refine aB rfl d wz (aL (vI a) wa rfl (aL (vB (decide (a<345686400000))) wa rfl (aa (vB (decide (a<345686400000))) (aa (vB (decide (a<345686400000))) (af ?_)))))
   obtain rfl:=ae b
   exact cu
  ·refine aB rfl d wz (ah (ah (aa (vB false) (aa (vB false) (af ?_)))))
   obtain rfl:=ae b
   exact cu
 ·rintro ⟨⟩ _ i h f g
  refine aR _ f g ?_
  obtain rfl:=ae c
  exact aC (aO [(vB e)] ⟨rfl,trivial⟩)
theorem xW {a:Campaign} {c:Int} {r:Int} (b:mK a c=some r) :
  FnM Tryz.prog 44 [(.d (.agg (Campaign.enc a))),(vI c)] [] (vI r) []:=by
 refine FnM.of_wH ⟨Tryz.prog,35,[],[]⟩ rfl Tryz.func44 rfl rfl (lb_ rfl) (by kernel_rfl) ?_
 unfold mK at b
 refine ai (jU 0 (.inl rfl) (Campaign.v a) rfl rfl wz (λi=>aa (vI 0) (af (ak (aQ (ai (aa (vI c) (aI uB rfl 2 rfl wz (aI mg rfl 2 rfl wz (aH 0 0 il ft sz3 ag3 rfl rfl (vI a.Time.From) rfl wz (aa (vB (decide (c<a.Time.From))) (aa (vB (decide (c<a.Time.From))) (af ?_)))))))))))))
 rcases aj b with⟨e,b⟩|⟨e,b⟩
 ·refine aA rfl e (ai (aa (vI 0) (af ?_)))
  obtain rfl:=ae b
  exact aC (aO [(vI 0)] ⟨rfl,trivial⟩)
 ·refine ay rfl e (ai (aa (vI c) (aI uB rfl 2 rfl wz (aI mI rfl 3 rfl wz (aH 0 0 il ft sz3 ag3 rfl rfl (vI a.Time.To) rfl wz (aa (vB (decide (c>=a.Time.To))) (aa (vB (decide (c>=a.Time.To))) (af ?_))))))))
  rcases aj b with⟨f,b⟩|⟨f,b⟩
  ·refine aA rfl f (ai (aI zH rfl 5 rfl wz (aH 0 0 il ft sz3 ag3 rfl rfl (vI a.Goal) rfl wz (aa (vI a.Goal) (af ?_)))))
   obtain rfl:=ae b
   exact aC (aO [(vI a.Goal)] ⟨rfl,trivial⟩)
  ·refine ay rfl f (ax (ai (aI zH rfl 5 rfl wz (aH 0 0 il ft sz3 ag3 rfl rfl (vI a.Goal) rfl wz (aa (vI c) (aI uB rfl 2 rfl wz (aI mg rfl 2 rfl wz (aH 0 0 il ft sz3 ag3 rfl rfl (vI a.Time.From) rfl wz (aa (vI (w64 (c-a.Time.From))) (aa (vI (w64 (a.Goal*(w64 (c-a.Time.From))))) (aI uB rfl 2 rfl wz (aI mI rfl 3 rfl wz (aH 0 0 il ft sz3 ag3 rfl rfl (vI a.Time.To) rfl wz (aI uB rfl 2 rfl wz (aI mg rfl 2 rfl wz (aH 0 0 il ft sz3 ag3 rfl rfl (vI a.Time.From) rfl wz (aa (vI (w64 (a.Time.To-a.Time.From))) ?_)))))))))))))))))
   obtain ⟨g,h,b⟩:=bind_some b
   refine Oh rfl rfl h wz (aa (vI g) (af (aR (H0:=([(i,some (.cells 8 (Campaign.v a)))]:Hp)) ([(4,(vI g))]:SL_) (by kernel_rfl) (Br (by kernel_rfl)) ?_)))
   obtain rfl:=ae b
   exact aC (aO [(vI g)] ⟨rfl,trivial⟩)
theorem D8 {b:Campaign} {e:Int} {r:Int×Int} (a:qp b e=some r) :
  FnM Tryz.prog 22 [(.d (.agg (Campaign.enc b))),(vI e)] [] (.tup [(vI r.1),(vI r.2)]) []:=by
 refine FnM.of_wH ⟨Tryz.prog,19,[],[]⟩ rfl Tryz.func22 rfl rfl (lb_ rfl) (by kernel_rfl) ?_
 unfold qp at a
 refine ai (jU 0 (.inl rfl) (Campaign.v b) rfl rfl wz (λm=>aa (vI 0) (aa (vI 0) (af (ak (ai (aH 0 0 il ft wQ FM rfl rfl (.d (.agg (Campaign.enc b))) rfl wz (gL (([b]:List Campaign).map Campaign.enc) F8 ez28 rfl rfl rfl rfl rfl wz ?_))))))))
 obtain ⟨c,j,a⟩:=bind_some a
 refine aG (jK j) rfl hb38 rfl rfl rfl rfl wz (aa (vI c) (af (ai (aa (vI c) (aa (vB (c != 0)) (af ?_))))))
 rcases aj a with⟨f,a⟩|⟨f,a⟩
 ·refine aA rfl f (ai (aa (vI c) (aa (vI 0) (aa (vI c) (af ?_)))))
  obtain rfl:=ae a
  exact aC (aO [(vI 0),(vI c)] ⟨rfl,⟨rfl,trivial⟩⟩)
 ·refine ay rfl f (ax (ak (ai (aa (vI e) ?_))))
  obtain ⟨l,k,a⟩:=bind_some a
  refine aG (gD k) rfl Ib rfl rfl rfl rfl wz (aa (vB (!l)) (af ?_))
  rcases aj a with⟨g,a⟩|⟨g,a⟩
  ·refine aA rfl g (ai (aa (vI 0) (aa (vI 1) (af ?_))))
   obtain rfl:=ae a
   exact aC (aO [(vI 0),(vI 1)] ⟨rfl,⟨rfl,trivial⟩⟩)
  ·refine ay rfl g (ax (ai (aH 0 0 il ft wQ FM rfl rfl (.d (.agg (Campaign.enc b))) rfl wz (aa (vI e) ?_))))
   obtain ⟨h,i,a⟩:=bind_some a
   refine aG (xW i) rfl hb44 rfl rfl rfl rfl wz (aa (vI h) (aa (vI 0) (af ?_)))
   obtain rfl:=ae a
   exact aC (aO [(vI h),(vI 0)] ⟨rfl,⟨rfl,trivial⟩⟩)
theorem oz {a:ByteArray} {b:ByteArray} {r:Int} (c:iA a b=some r) :
  FnM Tryz.prog 120 [(vS a),(vS b)] [] (vI r) []:=by
 refine FnM.of_wH ⟨Tryz.prog,8,[],[]⟩ rfl Tryz.func120 rfl rfl (lb_ rfl) (by kernel_rfl) ?_
 unfold iA at c
 refine ai (aa (vI 0) (af (ai (aa (vS a) (aa (vS b) (h_ext (Rs (f:=145) Tryz.func145 rfl rfl (by kernel_rfl) (by kernel_rfl) _ _) rfl nb145 rfl wz (aa (vI (Aa a b)) (af ?_))))))))
 obtain rfl:=ae c
 exact aC (aO [(vI (Aa a b))] ⟨rfl,trivial⟩)
theorem sH {b:ByteArray} {c:ByteArray} {r:Int} (a:strings_Compare b c=some r) :
  FnM Tryz.prog 83 [(vS b),(vS c)] [] (vI r) []:=by
 refine FnM.of_wH ⟨Tryz.prog,8,[],[]⟩ rfl Tryz.func83 rfl rfl (lb_ rfl) (by kernel_rfl) ?_
 unfold strings_Compare at a
 refine ai (aa (vI 0) (af (ai (aa (vS b) (aa (vS c) ?_)))))
 obtain ⟨d,e,a⟩:=bind_some a
 refine aG (oz e) rfl hb120 rfl rfl rfl rfl wz (aa (vI d) (af ?_))
 obtain rfl:=ae a
 exact aC (aO [(vI d)] ⟨rfl,trivial⟩)
theorem mW {a:Int} {r:Bool} (b:cmp_isNaN_int a=some r) :
  FnM Tryz.prog 85 [(vI a)] [] (vB r) []:=by
 refine FnM.of_wH ⟨Tryz.prog,6,[],[]⟩ rfl Tryz.func85 rfl rfl (lb_ rfl) (by kernel_rfl) ?_
 unfold cmp_isNaN_int at b
 refine ai (aa (vB false) (af (ai (aa (vI a) (aa (vI a) (aa (vB (a != a)) (aa (vB (a != a)) (af ?_))))))))
 obtain rfl:=ae b
 exact aC (aO [(vB (a != a))] ⟨rfl,trivial⟩)
theorem nY {b:Int} {c:Int} {r:Int} (a:cmp_Compare_int b c=some r) :
  FnM Tryz.prog 61 [(vI b),(vI c)] [] (vI r) []:=by
 refine FnM.of_wH ⟨Tryz.prog,20,[],[]⟩ rfl Tryz.func61 rfl rfl (lb_ rfl) (by kernel_rfl) ?_
 unfold cmp_Compare_int at a
 refine ai (aa (vI 0) (af (ai (aa (vI b) ?_))))
 obtain ⟨j,k,a⟩:=bind_some a
 refine aG (mW k) rfl hb85 rfl rfl rfl rfl wz (aa (vB j) (af (ai (aa (vI c) ?_))))
 obtain ⟨i,l,a⟩:=bind_some a
 refine aG (mW l) rfl hb85 rfl rfl rfl rfl wz (aa (vB i) (af (ak (ai (aa (vB j) (af ?_))))))
 rcases aj a with⟨f,a⟩|⟨f,a⟩
 ·refine aA rfl f (ak (ai (aa (vB i) (af ?_))))
  rcases aj a with⟨g,a⟩|⟨g,a⟩
  ·refine aA rfl g (ai (aa (vI 0) (af ?_)))
   obtain rfl:=ae a
   exact aC (aO [(vI 0)] ⟨rfl,trivial⟩)
  ·refine ay rfl g (ax (ai (aa (vI (-1)) (af ?_))))
   obtain rfl:=ae a
   exact aC (aO [(vI (-1))] ⟨rfl,trivial⟩)
 ·refine ay rfl f (ax (ak (ai (aa (vB i) (af ?_)))))
  rcases aj a with⟨h,a⟩|⟨h,a⟩
  ·refine aA rfl h (ai (aa (vI 1) (af ?_)))
   obtain rfl:=ae a
   exact aC (aO [(vI 1)] ⟨rfl,trivial⟩)
  ·refine ay rfl h (ax (ak (ai (aa (vI b) (aa (vI c) (aa (vB (decide (b<c))) (af ?_)))))))
   rcases aj a with⟨d,a⟩|⟨d,a⟩
   ·refine aA rfl d (ai (aa (vI (-1)) (af ?_)))
    obtain rfl:=ae a
    exact aC (aO [(vI (-1))] ⟨rfl,trivial⟩)
   ·refine ay rfl d (ax (ak (ai (aa (vI b) (aa (vI c) (aa (vB (decide (b>c))) (af ?_)))))))
    rcases aj a with⟨e,a⟩|⟨e,a⟩
    ·refine aA rfl e (ai (aa (vI 1) (af ?_)))
     obtain rfl:=ae a
     exact aC (aO [(vI 1)] ⟨rfl,trivial⟩)
    ·refine ay rfl e (ax (ai (aa (vI 0) (af ?_))))
     obtain rfl:=ae a
     exact aC (aO [(vI 0)] ⟨rfl,trivial⟩)
theorem yS {a:(List Int)} {r:Int} (g:pJ a=some r) :
  FnM Tryz.prog 82 [(vL eI a)] [] (vI r) []:=by
 refine FnM.of_wH ⟨Tryz.prog,18,[],[]⟩ rfl Tryz.func82 rfl rfl (lb_ rfl) (by kernel_rfl) ?_
 unfold pJ at g
 refine ai (aa (vI 0) (af (ai (aa (vI 0) (af (ak (ai (aa (vL eI a) (bQ ug rfl wz (aa (vI 0) (af ?_)))))))))))
 obtain ⟨q,j,g⟩:=bind_some g
 obtain ⟨m,j⟩:=bn j
 refine dB (λ(h:Unit)=>[(3,(vI 0))]) (λ(h:Unit)=>[]) (λ(f:Nat)=>(λ(h:Unit)=>[(3,(vI 0)),(6,(vL eI a)),(7,(vI (a.length:Int))),(8,(vI (f:Int)))])) (λk x s=>p9 k x s) q a () j rfl (aK rfl) ?_ ?_
 ·rintro ⟨f,l,h⟩ ⟨d,c⟩
  dsimp only at d c
  cases l with
  | nil =>
   obtain rfl:=ae d
   refine ai (aa (vB (decide ((f:Int)<(a.length:Int)))) (af ?_))
   refine ak (ay rfl (drop_nil c) (aY ?_))
   exact aW (h) rfl rfl (aK rfl)
  | cons b l =>
   obtain ⟨u,e,d⟩:=bind_some d
   refine ai (aa (vB (decide ((f:Int)<(a.length:Int)))) (af ?_))
   refine ak (aA rfl (bE c) (ax ?_))
   unfold p9 at e
   refine ak (aQ (ai (dI ic rfl rfl (bN c) rfl wz (bH sz3 ag3 rfl (vI b) rfl wz (aa (vI b) (af (ai (aa (vI b) (aa (vI 0) (aa (vB (b != 0)) (af ?_)))))))))))
   rcases aj e with⟨i,e⟩|⟨i,e⟩
   ·refine aA rfl i (ai (aa (vI b) (aa (vI b) (af ?_))))
    obtain rfl:=ae e
    obtain rfl:=ae d
    obtain rfl:=ae g
    exact aC (aO [(vI b)] ⟨rfl,trivial⟩)
   ·refine ay rfl i (ax (au (dS (bC c m) wz rfl (aa (vI ((f+1:Nat):Int)) (af ?_)))))
    obtain rfl:=ae e
    exact aZ (f+1,l,()) ⟨d,aV c⟩ (ls_ _) rfl (aK rfl)
 ·rintro h n v t o p
  subst n
  refine aR _ o p (ai (aa (vI 0) (aa (vI 0) (af ?_))))
  obtain rfl:=ae g
  exact aC (aO [(vI 0)] ⟨rfl,trivial⟩)
theorem wY {b:Beat} {c:Beat} {r:Int} (a:iy b c=some r) :
  FnM Tryz.prog 56 [(.d (.agg (Beat.enc b))),(.d (.agg (Beat.enc c)))] [] (vI r) []:=by
 refine FnM.of_wH ⟨Tryz.prog,17,[],[]⟩ rfl Tryz.func56 rfl rfl (lb_ rfl) (by kernel_rfl) ?_
 unfold iy at a
 refine ai (jU 0 (.inl rfl) (Beat.v b) rfl rfl wz (λk=>jU 0 (.inl rfl) (Beat.v c) rfl rfl wz (λl=>aa (vI 0) (af (ak (bv (aI Ch rfl 0 rfl wz (aH 1 0 (.inr (by kernel_rfl)) (λ_ _ ag=>trivial) sz9 ag9 rfl rfl (vS b.Player) rfl wz (aI Ch rfl 0 rfl wz (aH 3 1 (.inr (by kernel_rfl)) (λ_ _ ag=>⟨.inl ⟨rfl,rfl⟩,trivial⟩) sz9 ag9 rfl rfl (vS c.Player) rfl wz ?_))))))))))
 obtain ⟨i,g,a⟩:=bind_some a
 refine aG (sH g) rfl hb83 rfl rfl rfl rfl wz (aI DV rfl 1 rfl wz (aH 6 0 (.inr (by kernel_rfl)) (λ_ _ ag=>⟨.inl ⟨rfl,rfl⟩,⟨.inl ⟨rfl,rfl⟩,trivial⟩⟩) sz3 ag3 rfl rfl (vI b.At) rfl wz (aI DV rfl 1 rfl wz (aH 8 1 (.inr (by kernel_rfl)) (λ_ _ ag=>⟨.inl ⟨rfl,rfl⟩,⟨.inl ⟨rfl,rfl⟩,⟨.inl ⟨rfl,rfl⟩,trivial⟩⟩⟩) sz3 ag3 rfl rfl (vI c.At) rfl wz ?_))))
 obtain ⟨j,h,a⟩:=bind_some a
 refine aG (nY h) rfl hb61 rfl rfl rfl rfl wz (gL (([i,j]:List Int).map eI) ic AV rfl rfl rfl rfl rfl wz ?_)
 obtain ⟨e,f,a⟩:=bind_some a
 refine aG (yS f) rfl hb82 rfl rfl rfl rfl wz (aa (vI e) (af ?_))
 obtain rfl:=ae a
 exact aC (aO [(vI e)] ⟨rfl,trivial⟩)
end Go.Proofs.YtkjlhdminmpmkaaGreatDoor.Law

