/-
 The machine computes these plain functions (written by a program of ours).
-/
import Derived.Test.YtkjlhdminmpmkaaGreatDoorFacts
import Derived.Test.YtkjlhdminmpmkaaGreatDoorDefs
import Derived.Test.YtkjlhdminmpmkaaGreatDoorPf1
open Go Go.Eng Go.Proofs
namespace Go.Proofs.YtkjlhdminmpmkaaGreatDoor.Law
set_option maxRecDepth 100000
set_option linter.unusedVariables false
set_option maxHeartbeats 1000000
theorem Aw {g:(List Spot)} {c:(List Campaign)} {r:Web} (y:kQ g c=some r) :
  FnM Tryz.prog 15 [(vL Spot.enc g),(vL Campaign.enc c)] [] (.ref (av 0) 0 0) (iq 2 1 eI [(vI r.f_camps)] r.f_can):=by
 refine FnM.of_wH ⟨Tryz.prog,110,[],[]⟩ rfl Tryz.func15 rfl rfl (lb_ rfl) (by kernel_rfl) ?_
 unfold kQ at y
 refine ai (aa (.d .nilp) (af (ai (aa (vL Spot.enc g) (bQ Lr rfl wz (aa (vI (w64 (2+(g.length:Int)))) (aa (vL Campaign.enc c) (bQ I6 rfl wz (aa (vI (w64 ((w64 (2+(g.length:Int)))+(c.length:Int)))) (aa (vI (w64 ((w64 (2+(g.length:Int)))+(c.length:Int)))) (af (ai (aa (vI (w64 ((w64 (2+(g.length:Int)))+(c.length:Int)))) ?_)))))))))))))
 obtain ⟨f,ã,y⟩:=bind_some y
 obtain ⟨_,ü,y⟩:=bind_some y
 refine Qv (α:=Int) (enc:=eI) (sz:=1) 0 (.inl rfl) el70 uw z22 by22 rfl rfl ã (nzI_ne ü) wz (λa Z=>aa (vL Campaign.enc c) (bQ I6 rfl wz (aL (.agg [(.vs a 1 0 f),(vI (c.length:Int))]) wz (by kernel_rfl) (jU 0 (.inl rfl) [(.vs a 1 0 f),(vI (c.length:Int))] rfl rfl wz (λe=>rF (C0:=([(a,some (.cells 1 (aJ 1 Z (List.replicate f ([]:List Int)))))]:Hp)) (T:=(aS 1 eI Z (List.replicate f ([]:List Int)))) (X:=([(e,some (.cells 2 [(.vs a 1 0 f),(vI (c.length:Int))]))]:Hp)) (aa (.ref e 0 0) (af (ak (ai (aa (.ref e 0 0) (aa (.ref e 0 0) (aI nk rfl 0 rfl wz (aH 0 1 il ft yO yK rfl rfl (.vs a 1 0 f) rfl wz (Js un70 rfl wz (aa (vI 0) (af ?_))))))))))))))))
 obtain ⟨ý,Ë,y⟩:=bind_some y
 obtain ⟨è,Ë⟩:=bn Ë
 refine fV (σ:=(List (List Int))) (N:=(Nat->Nm)) (λp=>(λ(n:(List (List Int))) (b:(Nat->Nm))=>([(0,(vL Spot.enc g)),(1,(vL Campaign.enc c)),(6,(.ref e 0 0))]:SL_)) p.1 p.2) (λp=>(λ(n:(List (List Int))) (b:(Nat->Nm))=>(([(a,some (.cells 1 (aJ 1 b n))),(e,some (.cells 2 [(.vs a 1 0 f),(vI (c.length:Int))]))]:Hp)++(aS 1 eI b n))) p.1 p.2) (λ(t:Nat)=>(λp=>(λ(n:(List (List Int))) (b:(Nat->Nm))=>([(0,(vL Spot.enc g)),(1,(vL Campaign.enc c)),(5,(vI (w64 ((w64 (2+(g.length:Int)))+(c.length:Int))))),(6,(.ref e 0 0)),(30,(vI ((f:Nat):Int))),(31,(vI (t:Int)))]:SL_)) p.1 p.2)) (λk x s=>jW g c f k x s) ý (List.range (((f:Nat):Int)).toNat) ((List.replicate f ([]:List Int)),Z) Ë rfl (cz (C1:=([(a,some (.cells 1 (aJ 1 Z (List.replicate f ([]:List Int))))),(e,some (.cells 2 [(.vs a 1 0 f),(vI (c.length:Int))]))]:Hp)) (T:=(aS 1 eI Z (List.replicate f ([]:List Int)))) [0,1] (by decide) rfl rfl) ?_ ?_
 ·rintro ⟨t,Ï,n,b⟩ ⟨R,Q⟩
  dsimp only at R Q
  cases Ï with
  | nil =>
   obtain rfl:=ae R
   refine ai (aa (vB (decide ((t:Int)<((f:Nat):Int)))) (af ?_))
   refine ak (ay rfl (pM Q) (aY ?_))
   exact aW (n,b) rfl rfl (cz (C1:=([(a,some (.cells 1 (aJ 1 b n))),(e,some (.cells 2 [(.vs a 1 0 f),(vI (c.length:Int))]))]:Hp)) (T:=(aS 1 eI b n)) [0,1] (by decide) rfl rfl)
  | cons ĉ Ï =>
   obtain ⟨É,A,R⟩:=bind_some R
   refine ai (aa (vB (decide ((t:Int)<((f:Nat):Int)))) (af ?_))
   refine ak (aA rfl (ol Q) (ax ?_))
   unfold jW at A
   refine ak (aQ (ai (aa (vI (t:Int)) (aa (vI (t:Int)) (af (bv (aa (.ref e 0 0) (aa (.ref e 0 0) (aI nk rfl 0 rfl wz (aH 3 1 (.inr (by kernel_rfl)) (λ_ _ ag=>trivial) yO yK rfl rfl (.vs a 1 0 f) rfl wz (aa (vI (t:Int)) (aa (vI (w64 ((w64 (2+(g.length:Int)))+(c.length:Int)))) ?_))))))))))))
   obtain ⟨J,â,A⟩:=bind_some A
   refine H5 (enc:=eI) 6 (.inr (by kernel_rfl)) 0 Bh sz3 z3 by3 rfl rfl (by decide) rfl rfl rfl â wz (λK=>rF (C0:=([(a,some (.cells 1 (aJ 1 b n))),(e,some (.cells 2 [(.vs a 1 0 f),(vI (c.length:Int))]))]:Hp)) (T:=(aS 1 eI b n)) (X:=([(K,some (bV 1 eI (List.replicate J (0:Int))))]:Hp)) ?_)
   obtain ⟨_,Ø,A⟩:=bind_some A
   refine j6 zY rfl rfl (lT Ø) (je Ø) wz ?_
   obtain ⟨_,Â,A⟩:=bind_some A
   replace Â:=Ru Â
   refine fK (v':=(gV K 1 (List.replicate J (0:Int)))) 40 rfl (vV_gV Â) (xC 2 rfl (NK Â).symm ?_)
   obtain ⟨Ą,ß,A⟩:=bind_some A
   refine h_gst 8 0 (.inr (by kernel_rfl)) (λ_ _ ag=>⟨.inr (.inr (by kernel_rfl)),⟨.inr (.inr (by kernel_rfl)),trivial⟩⟩) uw rfl rfl rfl (QK ß) wz (lu (H0:=(([(a,some (.cells 1 (aJ 1 (wT b (0+((t:Int)).toNat) K) (n.set (0+((t:Int)).toNat) (List.replicate J (0:Int)))))),(e,some (.cells 2 [(.vs a 1 0 f),(vI (c.length:Int))]))]:Hp)++[(K,gB 1 eI (List.replicate J (0:Int)))]++(aS 1 eI b n))) rfl (h_rowin (QK ß) (af (au (dS (pO Q è) wz rfl (aa (vI ((t+1:Nat):Int)) (af ?_)))))))
   obtain rfl:=ae A
   exact aZ (t+1,Ï,(n.set (0+((t:Int)).toNat) (List.replicate J (0:Int))),(wT b (0+((t:Int)).toNat) K)) ⟨R,aV Q⟩ (ls_ _) rfl (cz (C1:=([(a,some (.cells 1 (aJ 1 (wT b (0+((t:Int)).toNat) K) (n.set (0+((t:Int)).toNat) (List.replicate J (0:Int)))))),(e,some (.cells 2 [(.vs a 1 0 f),(vI (c.length:Int))]))]:Hp)) (T:=(aS 1 eI (wT b (0+((t:Int)).toNat) K) (n.set (0+((t:Int)).toNat) (List.replicate J (0:Int))))) [0,1] (by decide) rfl rfl)
 ·rintro ⟨n,b⟩ I È Á E F
  subst I
  refine aR _ E F (ak (ai (aa (vL Campaign.enc c) (bQ I6 rfl wz (aa (vI 0) (af ?_))))))
  obtain ⟨þ,Ì,y⟩:=bind_some y
  obtain ⟨é,Ì⟩:=bn Ì
  refine dB (λ(l:(List (List Int)))=>[(0,(vL Spot.enc g)),(6,(.ref e 0 0))]) (λ(l:(List (List Int)))=>(([(a,some (.cells 1 (aJ 1 b l))),(e,some (.cells 2 [(.vs a 1 0 f),(vI (c.length:Int))]))]:Hp)++(aS 1 eI b l))) (λ(w:Nat)=>(λ(l:(List (List Int)))=>[(0,(vL Spot.enc g)),(6,(.ref e 0 0)),(43,(vL Campaign.enc c)),(44,(vI (c.length:Int))),(45,(vI (w:Int)))])) (λk x s=>iT f c g k x s) þ c n Ì rfl (cz (C1:=([(a,some (.cells 1 (aJ 1 b n))),(e,some (.cells 2 [(.vs a 1 0 f),(vI (c.length:Int))]))]:Hp)) (T:=(aS 1 eI b n)) [0,1] (by decide) rfl rfl) ?_ ?_
  ·rintro ⟨w,Ð,l⟩ ⟨U,L⟩
   dsimp only at U L
   cases Ð with
   | nil =>
    obtain rfl:=ae U
    refine ai (aa (vB (decide ((w:Int)<(c.length:Int)))) (af ?_))
    refine ak (ay rfl (drop_nil L) (aY ?_))
    exact aW (l) rfl rfl (cz (C1:=([(a,some (.cells 1 (aJ 1 b l))),(e,some (.cells 2 [(.vs a 1 0 f),(vI (c.length:Int))]))]:Hp)) (T:=(aS 1 eI b l)) [0,1] (by decide) rfl rfl)
   | cons h Ð =>
    obtain ⟨É,m,U⟩:=bind_some U
    refine ai (aa (vB (decide ((w:Int)<(c.length:Int)))) (af ?_))
    refine ak (aA rfl (bE L) (ax ?_))
    unfold iT at m
    refine ak (aQ (ai (aa (vI (w:Int)) (dI F8 rfl rfl (bN L) rfl wz (bH wQ FM rfl (.d (.agg (Campaign.enc h))) rfl wz (dz 0 (.inl rfl) z58 rfl wz (λu=>rF (C0:=([(a,some (.cells 1 (aJ 1 b l))),(e,some (.cells 2 [(.vs a 1 0 f),(vI (c.length:Int))]))]:Hp)) (T:=(aS 1 eI b l)) (X:=([(u,some (.cells 8 [(vS (⟨#[]⟩:ByteArray)),(vS (⟨#[]⟩:ByteArray)),(vI 0),(vI 0),.nil,(vI 0),(vI 0),(vI 0)]))]:Hp)) (aa (vI (w:Int)) (gp 0 il ft 2 wQ rfl rfl (Campaign.v h) rfl wz (af (ak (bv (aa (.ref e 0 0) (aa (.ref e 0 0) (aI nk rfl 0 rfl wz (aH 3 1 (.inr (by kernel_rfl)) (λ_ _ ag=>trivial) yO yK rfl rfl (.vs a 1 0 f) rfl wz ?_))))))))))))))))
    obtain ⟨_,Ù,m⟩:=bind_some m
    refine j6 zY rfl rfl (lT Ù) (je Ù) wz ?_
    obtain ⟨ą,ñ,m⟩:=bind_some m
    refine pu 5 0 (.inr (by kernel_rfl)) (λ_ _ ag=>⟨.inl ⟨rfl,rfl⟩,trivial⟩) uw wo rfl rfl ñ wz (aa (.ref e 0 0) (aa (vI (w:Int)) ?_))
    obtain ⟨_,ê,m⟩:=bind_some m
    obtain ⟨_,ä,m⟩:=bind_some m
    obtain ⟨Å,ò,m⟩:=bind_some m
    refine lu (H0:=(([(a,some (.cells 1 (aJ 1 b l))),(e,some (.cells 2 [(.vs a 1 0 f),(vI (c.length:Int))])),(u,some (.cells 8 (Campaign.v h)))]:Hp)++(aS 1 eI b l))) rfl (sP 8 1 0 (.inr (by kernel_rfl)) (λ_ _ ag=>by exact⟨.inl ⟨rfl,rfl⟩,⟨.inl ⟨rfl,rfl⟩,trivial⟩⟩) (ny ò) rfl hb19 rfl rfl (by decide) (nR ä) (uo ê) rfl (by kernel_rfl) (λ_=>by kernel_rfl) (by kernel_rfl) (by kernel_rfl) wz (aI zH rfl 5 rfl wz (aH 10 2 (.inr (by kernel_rfl)) (λ_ _ ag=>⟨.inl ⟨rfl,rfl⟩,⟨.inl ⟨rfl,rfl⟩,⟨.inl ⟨rfl,rfl⟩,trivial⟩⟩⟩) sz3 ag3 rfl rfl (vI h.Goal) rfl wz ?_)))
    obtain ⟨_,Ú,m⟩:=bind_some m
    refine jv ic rfl rfl (fF Ú) (dC Ú) wz ?_
    obtain ⟨Æ,à,m⟩:=bind_some m
    obtain ⟨Ă,ú,m⟩:=bind_some m
    refine lu (H0:=(([(a,some (.cells 1 (aJ 1 b l))),(e,some (.cells 2 [(.vs a 1 0 f),(vI (c.length:Int))])),(u,some (.cells 8 (Campaign.v h)))]:Hp)++(aS 1 eI b l))) rfl (AC 12 (.inr (by kernel_rfl)) (λ_ _ ag=>⟨.inr (.inr (by kernel_rfl)),⟨.inr (.inr (by kernel_rfl)),⟨.inr (.inr (by kernel_rfl)),⟨.inr (.inr (by kernel_rfl)),trivial⟩⟩⟩⟩) sz3 rfl à ú h.Goal rfl wz (xC (b':=some (.cells 1 (aJ 1 b (l.set (0+(0:Int).toNat) (Æ.set (0+(Å).toNat) h.Goal))))) 0 rfl (rJ à) (af (ai (aa (vL Spot.enc g) (bQ Lr rfl wz (aa (vI 0) (af ?_))))))))
    obtain ⟨ÿ,Í,m⟩:=bind_some m
    obtain ⟨ë,Í⟩:=bn Í
    refine dB (λ(j:(List (List Int)))=>[(0,(vL Spot.enc g)),(6,(.ref e 0 0)),(43,(vL Campaign.enc c)),(44,(vI (c.length:Int))),(45,(vI (w:Int)))]) (λ(j:(List (List Int)))=>(([(a,some (.cells 1 (aJ 1 b j))),(e,some (.cells 2 [(.vs a 1 0 f),(vI (c.length:Int))])),(u,some (.cells 8 (Campaign.v h)))]:Hp)++(aS 1 eI b j))) (λ(B:Nat)=>(λ(j:(List (List Int)))=>[(0,(vL Spot.enc g)),(6,(.ref e 0 0)),(8,(vI (w:Int))),(9,(.ref u 0 0)),(43,(vL Campaign.enc c)),(44,(vI (c.length:Int))),(45,(vI (w:Int))),(62,(vL Spot.enc g)),(63,(vI (g.length:Int))),(64,(vI (B:Int)))])) (λk x s=>iU h f c w k x s) ÿ g (l.set (0+(0:Int).toNat) (Æ.set (0+(Å).toNat) h.Goal)) Í rfl (cz (C1:=([(a,some (.cells 1 (aJ 1 b (l.set (0+(0:Int).toNat) (Æ.set (0+(Å).toNat) h.Goal))))),(e,some (.cells 2 [(.vs a 1 0 f),(vI (c.length:Int))])),(u,some (.cells 8 (Campaign.v h)))]:Hp)) (T:=(aS 1 eI b (l.set (0+(0:Int).toNat) (Æ.set (0+(Å).toNat) h.Goal)))) [0,1,2] (by decide) rfl rfl) ?_ ?_
    ·rintro ⟨B,Ñ,j⟩ ⟨W,M⟩
     dsimp only at W M
     cases Ñ with
     | nil =>
      obtain rfl:=ae W
      refine ai (aa (vB (decide ((B:Int)<(g.length:Int)))) (af ?_))
      refine ak (ay rfl (drop_nil M) (aY ?_))
      exact aW (j) rfl rfl (cz (C1:=([(a,some (.cells 1 (aJ 1 b j))),(e,some (.cells 2 [(.vs a 1 0 f),(vI (c.length:Int))])),(u,some (.cells 8 (Campaign.v h)))]:Hp)) (T:=(aS 1 eI b j)) [0,1,2] (by decide) rfl rfl)
     | cons C Ñ =>
      obtain ⟨É,P,W⟩:=bind_some W
      refine ai (aa (vB (decide ((B:Int)<(g.length:Int)))) (af ?_))
      refine ak (aA rfl (bE M) (ax ?_))
      unfold iU at P
      refine ak (aQ (ai (aa (vI (B:Int)) (dI LK rfl rfl (bN M) rfl wz (bH zA JJ rfl (.d (.agg (Spot.enc C))) rfl wz (dz 0 (.inl rfl) z40 rfl wz (λH=>rF (C0:=([(a,some (.cells 1 (aJ 1 b j))),(e,some (.cells 2 [(.vs a 1 0 f),(vI (c.length:Int))])),(u,some (.cells 8 (Campaign.v h)))]:Hp)) (T:=(aS 1 eI b j)) (X:=([(H,some (.cells 5 [(vS (⟨#[]⟩:ByteArray)),(vI 0),(vI 0),(vI 0),.nil]))]:Hp)) (aa (vI (B:Int)) (gp 0 il ft 3 zA rfl rfl (Spot.v C) rfl wz (af (ai (aH 0 2 il ft wQ FM rfl rfl (.d (.agg (Campaign.enc h))) rfl wz (aH 0 3 il ft zA JJ rfl rfl (.d (.agg (Spot.enc C))) rfl wz ?_)))))))))))))
      obtain ⟨Ć,ó,P⟩:=bind_some P
      refine aG (uI ó) rfl hb18 rfl rfl rfl rfl wz (af ?_)
      obtain ⟨À,i,P⟩:=bind_some P
      refine aU [(0,(vL Spot.enc g)),(6,(.ref e 0 0)),(8,(vI (w:Int))),(9,(.ref u 0 0)),(43,(vL Campaign.enc c)),(44,(vI (c.length:Int))),(45,(vI (w:Int))),(62,(vL Spot.enc g)),(63,(vI (g.length:Int))),(64,(vI (B:Int)))] (([(a,some (.cells 1 (aJ 1 b À))),(e,some (.cells 2 [(.vs a 1 0 f),(vI (c.length:Int))])),(u,some (.cells 8 (Campaign.v h))),(H,some (.cells 5 (Spot.v C)))]:Hp)++(aS 1 eI b À)) ?_ ?_
      ·rcases aj i with⟨Ê,i⟩|⟨Ê,i⟩
       ·refine aA rfl Ê (bv (aa (.ref e 0 0) (aa (.ref e 0 0) (aI nk rfl 0 rfl wz (aH 3 1 (.inr (by kernel_rfl)) (λ_ _ ag=>trivial) yO yK rfl rfl (.vs a 1 0 f) rfl wz (aa (.ref e 0 0) (aa (vI (w:Int)) ?_)))))))
        obtain ⟨_,ì,i⟩:=bind_some i
        obtain ⟨_,å,i⟩:=bind_some i
        obtain ⟨Ó,ô,i⟩:=bind_some i
        refine lu (H0:=(([(a,some (.cells 1 (aJ 1 b j))),(e,some (.cells 2 [(.vs a 1 0 f),(vI (c.length:Int))])),(u,some (.cells 8 (Campaign.v h))),(H,some (.cells 5 (Spot.v C)))]:Hp)++(aS 1 eI b j))) rfl (sP 6 1 0 (.inr (by kernel_rfl)) (λ_ _ ag=>by exact⟨.inl ⟨rfl,rfl⟩,trivial⟩) (ny ô) rfl hb19 rfl rfl (by decide) (nR å) (uo ì) rfl (by kernel_rfl) (λ_=>by kernel_rfl) (by kernel_rfl) (by kernel_rfl) wz ?_)
        obtain ⟨_,Û,i⟩:=bind_some i
        refine j6 zY rfl rfl (lT Û) (je Û) wz ?_
        obtain ⟨ć,õ,i⟩:=bind_some i
        refine pu 8 0 (.inr (by kernel_rfl)) (λ_ _ ag=>⟨.inl ⟨rfl,rfl⟩,⟨.inl ⟨rfl,rfl⟩,trivial⟩⟩) uw wo rfl rfl õ wz (aa (.ref e 0 0) (aa (vI (B:Int)) ?_))
        obtain ⟨_,í,i⟩:=bind_some i
        obtain ⟨_,æ,i⟩:=bind_some i
        obtain ⟨Ô,ö,i⟩:=bind_some i
        refine lu (H0:=(([(a,some (.cells 1 (aJ 1 b j))),(e,some (.cells 2 [(.vs a 1 0 f),(vI (c.length:Int))])),(u,some (.cells 8 (Campaign.v h))),(H,some (.cells 5 (Spot.v C)))]:Hp)++(aS 1 eI b j))) rfl (sP 11 1 0 (.inr (by kernel_rfl)) (λ_ _ ag=>by exact⟨.inl ⟨rfl,rfl⟩,⟨.inl ⟨rfl,rfl⟩,⟨.inl ⟨rfl,rfl⟩,trivial⟩⟩⟩) (nA ö) rfl hb20 rfl rfl (by decide) (nR æ) (uo í) rfl (by kernel_rfl) (λ_=>by kernel_rfl) (by kernel_rfl) (by kernel_rfl) wz (aI Qn rfl 6 rfl wz (aH 13 2 (.inr (by kernel_rfl)) (λ_ _ ag=>⟨.inl ⟨rfl,rfl⟩,⟨.inl ⟨rfl,rfl⟩,⟨.inl ⟨rfl,rfl⟩,⟨.inl ⟨rfl,rfl⟩,trivial⟩⟩⟩⟩) sz3 ag3 rfl rfl (vI h.Most) rfl wz ?_)))
        obtain ⟨_,Ü,i⟩:=bind_some i
        refine jv ic rfl rfl (fF Ü) (dC Ü) wz ?_
        obtain ⟨Õ,á,i⟩:=bind_some i
        obtain ⟨ă,û,i⟩:=bind_some i
        refine lu (H0:=(([(a,some (.cells 1 (aJ 1 b j))),(e,some (.cells 2 [(.vs a 1 0 f),(vI (c.length:Int))])),(u,some (.cells 8 (Campaign.v h))),(H,some (.cells 5 (Spot.v C)))]:Hp)++(aS 1 eI b j))) rfl (AC 15 (.inr (by kernel_rfl)) (λ_ _ ag=>⟨.inr (.inr (by kernel_rfl)),⟨.inr (.inr (by kernel_rfl)),⟨.inr (.inr (by kernel_rfl)),⟨.inr (.inr (by kernel_rfl)),⟨.inr (.inr (by kernel_rfl)),trivial⟩⟩⟩⟩⟩) sz3 rfl á û h.Most rfl wz (xC (b':=some (.cells 1 (aJ 1 b (j.set (0+(Ó).toNat) (Õ.set (0+(Ô).toNat) h.Most))))) 0 rfl (rJ á) (af ?_)))
        obtain rfl:=ae i
        exact aW () trivial rfl (cz (C1:=([(a,some (.cells 1 (aJ 1 b (j.set (0+(Ó).toNat) (Õ.set (0+(Ô).toNat) h.Most))))),(e,some (.cells 2 [(.vs a 1 0 f),(vI (c.length:Int))])),(u,some (.cells 8 (Campaign.v h))),(H,some (.cells 5 (Spot.v C)))]:Hp)) (T:=(aS 1 eI b (j.set (0+(Ó).toNat) (Õ.set (0+(Ô).toNat) h.Most)))) [0,1,2,3] (by decide) rfl rfl)
       ·refine ay rfl Ê (ax ?_)
        obtain rfl:=ae i
        exact aW () trivial rfl (cz (C1:=([(a,some (.cells 1 (aJ 1 b j))),(e,some (.cells 2 [(.vs a 1 0 f),(vI (c.length:Int))])),(u,some (.cells 8 (Campaign.v h))),(H,some (.cells 5 (Spot.v C)))]:Hp)) (T:=(aS 1 eI b j)) [0,1,2,3] (by decide) rfl rfl)
      ·rintro ⟨⟩ _ È Á E F
       refine aR _ E F (au (dS (bC M ë) wz rfl (aa (vI ((B+1:Nat):Int)) (af ?_))))
       obtain rfl:=ae P
       exact aZ (B+1,Ñ,À) ⟨W,aV M⟩ (ls_ _) rfl (cz (C1:=([(a,some (.cells 1 (aJ 1 b À))),(e,some (.cells 2 [(.vs a 1 0 f),(vI (c.length:Int))])),(u,some (.cells 8 (Campaign.v h))),(H,some (.cells 5 (Spot.v C)))]:Hp)) (T:=(aS 1 eI b À)) [0,1,2] (by decide) rfl rfl)
    ·rintro j I È Á E F
     subst I
     refine aR _ E F (au (dS (bC L é) wz rfl (aa (vI ((w+1:Nat):Int)) (af ?_))))
     obtain rfl:=ae m
     exact aZ (w+1,Ð,j) ⟨U,aV L⟩ (ls_ _) rfl (cz (C1:=([(a,some (.cells 1 (aJ 1 b j))),(e,some (.cells 2 [(.vs a 1 0 f),(vI (c.length:Int))])),(u,some (.cells 8 (Campaign.v h)))]:Hp)) (T:=(aS 1 eI b j)) [0,1] (by decide) rfl rfl)
  ·rintro l I È Á E F
   subst I
   refine aR _ E F (ak (ai (aa (vL Spot.enc g) (bQ Lr rfl wz (aa (vI 0) (af ?_))))))
   obtain ⟨Ā,Î,y⟩:=bind_some y
   obtain ⟨î,Î⟩:=bn Î
   refine dB (λ(o:(List (List Int)))=>[(6,(.ref e 0 0))]) (λ(o:(List (List Int)))=>(([(a,some (.cells 1 (aJ 1 b o))),(e,some (.cells 2 [(.vs a 1 0 f),(vI (c.length:Int))]))]:Hp)++(aS 1 eI b o))) (λ(G:Nat)=>(λ(o:(List (List Int)))=>[(6,(.ref e 0 0)),(89,(vL Spot.enc g)),(90,(vI (g.length:Int))),(91,(vI (G:Int)))])) (λk x s=>jQ f c k x s) Ā g l Î rfl (cz (C1:=([(a,some (.cells 1 (aJ 1 b l))),(e,some (.cells 2 [(.vs a 1 0 f),(vI (c.length:Int))]))]:Hp)) (T:=(aS 1 eI b l)) [0,1] (by decide) rfl rfl) ?_ ?_
   ·rintro ⟨G,Ò,o⟩ ⟨Y,O⟩
    dsimp only at Y O
    cases Ò with
    | nil =>
     obtain rfl:=ae Y
     refine ai (aa (vB (decide ((G:Int)<(g.length:Int)))) (af ?_))
     refine ak (ay rfl (drop_nil O) (aY ?_))
     exact aW (o) rfl rfl (cz (C1:=([(a,some (.cells 1 (aJ 1 b o))),(e,some (.cells 2 [(.vs a 1 0 f),(vI (c.length:Int))]))]:Hp)) (T:=(aS 1 eI b o)) [0,1] (by decide) rfl rfl)
    | cons z Ò =>
     obtain ⟨É,q,Y⟩:=bind_some Y
     refine ai (aa (vB (decide ((G:Int)<(g.length:Int)))) (af ?_))
     refine ak (aA rfl (bE O) (ax ?_))
     unfold jQ at q
     refine ak (aQ (ai (aa (vI (G:Int)) (dI LK rfl rfl (bN O) rfl wz (bH zA JJ rfl (.d (.agg (Spot.enc z))) rfl wz (dz 0 (.inl rfl) z40 rfl wz (λÃ=>rF (C0:=([(a,some (.cells 1 (aJ 1 b o))),(e,some (.cells 2 [(.vs a 1 0 f),(vI (c.length:Int))]))]:Hp)) (T:=(aS 1 eI b o)) (X:=([(Ã,some (.cells 5 [(vS (⟨#[]⟩:ByteArray)),(vI 0),(vI 0),(vI 0),.nil]))]:Hp)) (aa (vI (G:Int)) (gp 0 il ft 2 zA rfl rfl (Spot.v z) rfl wz (af (bv (aa (.ref e 0 0) (aa (.ref e 0 0) (aI nk rfl 0 rfl wz (aH 3 1 (.inr (by kernel_rfl)) (λ_ _ ag=>trivial) yO yK rfl rfl (.vs a 1 0 f) rfl wz (aa (.ref e 0 0) (aa (vI (G:Int)) ?_)))))))))))))))))
     obtain ⟨_,ï,q⟩:=bind_some q
     obtain ⟨_,ç,q⟩:=bind_some q
     obtain ⟨Ç,ø,q⟩:=bind_some q
     refine lu (H0:=(([(a,some (.cells 1 (aJ 1 b o))),(e,some (.cells 2 [(.vs a 1 0 f),(vI (c.length:Int))])),(Ã,some (.cells 5 (Spot.v z)))]:Hp)++(aS 1 eI b o))) rfl (sP 6 1 0 (.inr (by kernel_rfl)) (λ_ _ ag=>by exact⟨.inl ⟨rfl,rfl⟩,trivial⟩) (nA ø) rfl hb20 rfl rfl (by decide) (nR ç) (uo ï) rfl (by kernel_rfl) (λ_=>by kernel_rfl) (by kernel_rfl) (by kernel_rfl) wz ?_)
     obtain ⟨_,Ý,q⟩:=bind_some q
     refine j6 zY rfl rfl (lT Ý) (je Ý) wz ?_
     obtain ⟨Ĉ,ð,q⟩:=bind_some q
     refine pu 8 0 (.inr (by kernel_rfl)) (λ_ _ ag=>⟨.inl ⟨rfl,rfl⟩,⟨.inl ⟨rfl,rfl⟩,trivial⟩⟩) uw wo rfl rfl ð wz (aI Sa rfl 3 rfl wz (aH 10 2 (.inr (by kernel_rfl)) (λ_ _ ag=>⟨.inl ⟨rfl,rfl⟩,⟨.inl ⟨rfl,rfl⟩,⟨.inl ⟨rfl,rfl⟩,trivial⟩⟩⟩) sz3 ag3 rfl rfl (vI z.Room) rfl wz ?_))
     obtain ⟨_,Ö,q⟩:=bind_some q
     refine jv ic rfl rfl (fF Ö) (dC Ö) wz ?_
     obtain ⟨Ä,Þ,q⟩:=bind_some q
     obtain ⟨ā,ù,q⟩:=bind_some q
     refine lu (H0:=(([(a,some (.cells 1 (aJ 1 b o))),(e,some (.cells 2 [(.vs a 1 0 f),(vI (c.length:Int))])),(Ã,some (.cells 5 (Spot.v z)))]:Hp)++(aS 1 eI b o))) rfl (AC 12 (.inr (by kernel_rfl)) (λ_ _ ag=>⟨.inr (.inr (by kernel_rfl)),⟨.inr (.inr (by kernel_rfl)),⟨.inr (.inr (by kernel_rfl)),⟨.inr (.inr (by kernel_rfl)),trivial⟩⟩⟩⟩) sz3 rfl Þ ù z.Room rfl wz (xC (b':=some (.cells 1 (aJ 1 b (o.set (0+(Ç).toNat) (Ä.set (0+(1:Int).toNat) z.Room))))) 0 rfl (rJ Þ) (af (au (dS (bC O î) wz rfl (aa (vI ((G+1:Nat):Int)) (af ?_)))))))
     obtain rfl:=ae q
     exact aZ (G+1,Ò,(o.set (0+(Ç).toNat) (Ä.set (0+(1:Int).toNat) z.Room))) ⟨Y,aV O⟩ (ls_ _) rfl (cz (C1:=([(a,some (.cells 1 (aJ 1 b (o.set (0+(Ç).toNat) (Ä.set (0+(1:Int).toNat) z.Room))))),(e,some (.cells 2 [(.vs a 1 0 f),(vI (c.length:Int))])),(Ã,some (.cells 5 (Spot.v z)))]:Hp)) (T:=(aS 1 eI b (o.set (0+(Ç).toNat) (Ä.set (0+(1:Int).toNat) z.Room)))) [0,1] (by decide) rfl rfl)
   ·rintro o I È Á E F
    subst I
    refine aR _ E F (ai (aa (.ref e 0 0) (aa (.ref e 0 0) (af ?_))))
    obtain ⟨_,hk_,y⟩:=bind_some y
    obtain rfl:=ae y
    exact aC (finGrN 1 0 (.inr rfl) rfl rfl (nR hk_) (by decide) rfl rfl rfl)
theorem zw {a:Web} {e:Int} {q:Int} {r:(List Int)×Bool} (o:lw a e q=some r) :
  FnM Tryz.prog 39 [(.ref (av 0) 0 0),(vI e),(vI q)] (lh 2 1 eI [(vI a.f_camps)] a.f_can) (.tup [(vL eI r.1),(vB r.2)]) (iq 2 1 eI [(vI a.f_camps)] a.f_can):=by
 refine FnM.of_wHg (cs:=[(vI a.f_camps)]) ⟨Tryz.prog,87,[33],[]⟩ rfl Tryz.func39 rfl rfl (lb_ rfl) (by kernel_rfl) ?_
 unfold lw at o
 refine ai (aa .nil (aa (vB false) (af (ai (aa (.ref (av 0) 0 0) (aa (.ref (av 0) 0 0) (aI nk rfl 0 rfl wz (aH 0 0 il ft yO yK rfl rfl (.vs (av 1) 1 0 a.f_can.length) rfl wz (Js un70 rfl wz ?_)))))))))
 obtain ⟨C,Ú,o⟩:=bind_some o
 refine H5 (enc:=eI) 0 (.inl rfl) 0 Bh sz3 z3 by3 rfl rfl (by decide) rfl rfl rfl Ú wz (λb=>rF (C0:=([((av 0),some (.cells 2 [(.vs (av 1) 1 0 a.f_can.length),(vI a.f_camps)])),((av 1),some (.cells 1 (aJ 1 bO a.f_can)))]:Hp)) (T:=(aS 1 eI bO a.f_can)) (X:=([(b,some (bV 1 eI (List.replicate C (0:Int))))]:Hp)) (aa (vV b 1 (List.replicate C (0:Int))) (af (ak (ai (aa (vV b 1 (List.replicate C (0:Int))) (RJ ug rfl wz (aa (vI 0) (af ?_)))))))))
 obtain ⟨ê,Å,o⟩:=bind_some o
 obtain ⟨Û,Å⟩:=bn Å
 refine dB (λ(h:List Int)=>[(0,(.ref (av 0) 0 0)),(1,(vI e)),(2,(vI q)),(8,(vV b 1 h))]) (λ(h:List Int)=>(([((av 0),some (.cells 2 [(.vs (av 1) 1 0 a.f_can.length),(vI a.f_camps)])),((av 1),some (.cells 1 (aJ 1 bO a.f_can))),(b,some (bV 1 eI h))]:Hp)++(aS 1 eI bO a.f_can))) (λ(t:Nat)=>(λ(h:List Int)=>[(0,(.ref (av 0) 0 0)),(1,(vI e)),(2,(vI q)),(8,(vV b 1 h)),(20,(vI ((List.replicate C (0:Int)).length:Int))),(21,(vI (t:Int)))])) (λk x s=>jo k x s) ê (List.range (((List.replicate C (0:Int)).length:Int)).toNat) (List.replicate C (0:Int)) Å rfl (cz (C1:=([((av 0),some (.cells 2 [(.vs (av 1) 1 0 a.f_can.length),(vI a.f_camps)])),((av 1),some (.cells 1 (aJ 1 bO a.f_can))),(b,some (bV 1 eI (List.replicate C (0:Int))))]:Hp)) (T:=(aS 1 eI bO a.f_can)) [0,1,2] (by decide) rfl rfl) ?_ ?_
 ·rintro ⟨t,É,h⟩ ⟨M,K⟩
  dsimp only at M K
  cases É with
  | nil =>
   obtain rfl:=ae M
   refine ai (aa (vB (decide ((t:Int)<((List.replicate C (0:Int)).length:Int)))) (af ?_))
   refine ak (ay rfl (pM K) (aY ?_))
   exact aW (h) rfl rfl (cz (C1:=([((av 0),some (.cells 2 [(.vs (av 1) 1 0 a.f_can.length),(vI a.f_camps)])),((av 1),some (.cells 1 (aJ 1 bO a.f_can))),(b,some (bV 1 eI h))]:Hp)) (T:=(aS 1 eI bO a.f_can)) [0,1,2] (by decide) rfl rfl)
  | cons ô É =>
   obtain ⟨Ì,F,M⟩:=bind_some M
   refine ai (aa (vB (decide ((t:Int)<((List.replicate C (0:Int)).length:Int)))) (af ?_))
   refine ak (aA rfl (ol K) (ax ?_))
   unfold jo at F
   refine ak (aQ (ai (aa (vI (t:Int)) (aa (vI (t:Int)) (af (au (aa (vV b 1 h) (aa (vI (t:Int)) ?_))))))))
   obtain ⟨_,Í,F⟩:=bind_some F
   refine j6 ic rfl rfl (fF Í) (dC Í) wz ?_
   obtain ⟨ï,ß,F⟩:=bind_some F
   refine yY 0 il ft 2 sz3 rfl rfl ß (-1) rfl wz (fK (v':=(vV b 1 (h.set (0+((t:Int)).toNat) (-1)))) 8 rfl (uu (by simp)) (fK (v':=(vV b 1 (h.set (0+((t:Int)).toNat) (-1)))) 24 rfl (uu (by simp)) (af (au (dS (pO K Û) wz rfl (aa (vI ((t+1:Nat):Int)) (af ?_)))))))
   obtain rfl:=ae F
   exact aZ (t+1,É,(h.set (0+((t:Int)).toNat) (-1))) ⟨M,aV K⟩ (ls_ _) rfl (cz (C1:=([((av 0),some (.cells 2 [(.vs (av 1) 1 0 a.f_can.length),(vI a.f_camps)])),((av 1),some (.cells 1 (aJ 1 bO a.f_can))),(b,some (bV 1 eI (h.set (0+((t:Int)).toNat) (-1))))]:Hp)) (T:=(aS 1 eI bO a.f_can)) [0,1,2] (by decide) rfl rfl)
 ·rintro h P Q H v w
  subst P
  refine aR _ v w (ai (aa (vV b 1 h) (aa (vI e) (aa (vI e) ?_))))
  obtain ⟨_,Î,o⟩:=bind_some o
  refine j6 ic rfl rfl (fF Î) (dC Î) wz ?_
  obtain ⟨ð,à,o⟩:=bind_some o
  refine yY 0 il ft 2 sz3 rfl rfl à e rfl wz (fK (v':=(vV b 1 (h.set (0+(e).toNat) e))) 8 rfl (uu (by simp)) (fK (v':=(vV b 1 (h.set (0+(e).toNat) e))) 28 rfl (uu (by simp)) (af (ak (ai (aa (vI e) (h_litv 0 (.inl rfl) (([e]:List Int).map eI) ic AV rfl rfl rfl rfl rfl wz (λY=>rF (C0:=([((av 0),some (.cells 2 [(.vs (av 1) 1 0 a.f_can.length),(vI a.f_camps)])),((av 1),some (.cells 1 (aJ 1 bO a.f_can))),(b,some (bV 1 eI (h.set (0+(e).toNat) e)))]:Hp)) (T:=(aS 1 eI bO a.f_can)) (X:=([(Y,some (bV 1 eI ([e]:List Int)))]:Hp)) (aa (vV Y 1 ([e]:List Int)) (af ?_))))))))))
  obtain ⟨ë,Æ,o⟩:=bind_some o
  obtain ⟨é,Æ⟩:=bW Æ
  refine xn (σ:=(List Int)×(List Int)×Nat) (N:=Nm) (λp=>(λ(d:(List Int)×(List Int)×Nat) (m:Nm)=>([(2,(vI q)),(8,(vV b 1 d.1))]:SL_)) p.1 p.2) (λp=>(λ(d:(List Int)×(List Int)×Nat) (m:Nm)=>(([((av 0),some (.cells 2 [(.vs (av 1) 1 0 a.f_can.length),(vI a.f_camps)])),((av 1),some (.cells 1 (aJ 1 bO a.f_can))),(b,some (bV 1 eI d.1)),(m,some (bV 1 eI d.2.1))]:Hp)++(aS 1 eI bO a.f_can))) p.1 p.2) (λ(W:Nat)=>(λp=>(λ(d:(List Int)×(List Int)×Nat) (m:Nm)=>([(0,(.ref (av 0) 0 0)),(2,(vI q)),(8,(vV b 1 d.1)),(10,(qV m 1 d.2.1 d.2.2))]:SL_)) p.1 p.2)) (λs=>gJ q a s) ë é (((h.set (0+(e).toNat) e),([e]:List Int),0),Y) Æ rfl (cz (C1:=([((av 0),some (.cells 2 [(.vs (av 1) 1 0 a.f_can.length),(vI a.f_camps)])),((av 1),some (.cells 1 (aJ 1 bO a.f_can))),(b,some (bV 1 eI (h.set (0+(e).toNat) e))),(Y,some (bV 1 eI ([e]:List Int)))]:Hp)) (T:=(aS 1 eI bO a.f_can)) [0,1,2,3] (by decide) rfl rfl) ?_ ?_
  ·rintro ⟨W,d,m⟩ E
   dsimp only at E
   cases W with
   | zero=>cases E
   | succ W =>
    obtain ⟨Ì,g,E⟩:=bind_some E
    unfold gJ at g
    refine ak (ak ?_)
    obtain ⟨í,A,g⟩:=bind_some g
    refine aU [(0,(.ref (av 0) 0 0)),(2,(vI q)),(8,(vV b 1 d.1)),(10,(qV m 1 d.2.1 d.2.2)),(43,(vB í))] (([((av 0),some (.cells 2 [(.vs (av 1) 1 0 a.f_can.length),(vI a.f_camps)])),((av 1),some (.cells 1 (aJ 1 bO a.f_can))),(b,some (bV 1 eI d.1)),(m,some (bV 1 eI d.2.1))]:Hp)++(aS 1 eI bO a.f_can)) ?_ ?_
    ·refine au (aa (qV m 1 d.2.1 d.2.2) (Js ug rfl wz (aa (vB (decide ((((d.2.1.length-d.2.2):Nat):Int)>0))) ?_)))
     rcases aj A with⟨Á,A⟩|⟨Á,A⟩
     ·refine aB rfl Á wz (aL (vV b 1 d.1) wa rfl (aL (vI q) wa rfl ?_))
      obtain ⟨_,Ï,A⟩:=bind_some A
      refine j6 ic rfl rfl (fF Ï) (dC Ï) wa ?_
      obtain ⟨Z,á,A⟩:=bind_some A
      refine A7 0 2 il ft sz3 ag3 rfl rfl á (vI Z) rfl wa (aL (vB (decide (Z<0))) wa rfl (aa (vB (decide (Z<0))) (af ?_)))
      obtain rfl:=ae A
      exact aW () trivial rfl (cz (C1:=([((av 0),some (.cells 2 [(.vs (av 1) 1 0 a.f_can.length),(vI a.f_camps)])),((av 1),some (.cells 1 (aJ 1 bO a.f_can))),(b,some (bV 1 eI d.1)),(m,some (bV 1 eI d.2.1))]:Hp)) (T:=(aS 1 eI bO a.f_can)) [0,1,2,3] (by decide) rfl rfl)
     ·refine aB rfl Á wz (ah (ah (ah (ah (ah (aa (vB false) (af ?_)))))))
      obtain rfl:=ae A
      exact aW () trivial rfl (cz (C1:=([((av 0),some (.cells 2 [(.vs (av 1) 1 0 a.f_can.length),(vI a.f_camps)])),((av 1),some (.cells 1 (aJ 1 bO a.f_can))),(b,some (bV 1 eI d.1)),(m,some (bV 1 eI d.2.1))]:Hp)) (T:=(aS 1 eI bO a.f_can)) [0,1,2,3] (by decide) rfl rfl)
    ·rintro ⟨⟩ _ Q H v w
     refine aR _ v w ?_
     rcases aj g with⟨Â,g⟩|⟨Â,g⟩
     ·refine aA rfl Â (ax (ak (aQ (ak (bv (aa (.ref (av 0) 0 0) (aa (.ref (av 0) 0 0) (aI nk rfl 0 rfl wz (aH 3 0 (.inr (by kernel_rfl)) (λ_ _ ag=>trivial) yO yK rfl rfl (.vs (av 1) 1 0 a.f_can.length) rfl wz (aa (qV m 1 d.2.1 d.2.2) ?_))))))))))
      obtain ⟨_,Ð,g⟩:=bind_some g
      refine j6 ic rfl rfl (lT Ð) (je Ð) wz ?_
      obtain ⟨I,â,g⟩:=bind_some g
      refine A7 6 3 (.inr (by kernel_rfl)) (λ_ _ ag=>⟨.inl ⟨rfl,rfl⟩,trivial⟩) sz3 ag3 rfl rfl â (vI I) rfl wz ?_
      obtain ⟨_,Ñ,g⟩:=bind_some g
      refine j6 zY rfl rfl (lT Ñ) (je Ñ) wz ?_
      obtain ⟨y,Ý,g⟩:=bind_some g
      refine pu 8 1 (.inr (by kernel_rfl)) (λ_ _ ag=>⟨.inl ⟨rfl,rfl⟩,⟨.inl ⟨rfl,rfl⟩,trivial⟩⟩) uw wo rfl rfl Ý wz (zJ ug rfl wz (aa (vI 0) (af ?_)))
      obtain ⟨ì,Ç,g⟩:=bind_some g
      obtain ⟨Ü,Ç⟩:=bn Ç
      refine fV (σ:=(List Int)×(List Int)×Nat) (N:=Nm) (λp=>(λ(c:(List Int)×(List Int)×Nat) (f:Nm)=>([(0,(.ref (av 0) 0 0)),(2,(vI q)),(8,(vV b 1 c.1)),(10,(qV f 1 c.2.1 c.2.2))]:SL_)) p.1 p.2) (λp=>(λ(c:(List Int)×(List Int)×Nat) (f:Nm)=>(([((av 0),some (.cells 2 [(.vs (av 1) 1 0 a.f_can.length),(vI a.f_camps)])),((av 1),some (.cells 1 (aJ 1 bO a.f_can))),(b,some (bV 1 eI c.1)),(f,some (bV 1 eI c.2.1))]:Hp)++(aS 1 eI bO a.f_can))) p.1 p.2) (λ(j:Nat)=>(λp=>(λ(c:(List Int)×(List Int)×Nat) (f:Nm)=>([(0,(.ref (av 0) 0 0)),(2,(vI q)),(8,(vV b 1 c.1)),(10,(qV f 1 c.2.1 c.2.2)),(54,(gV (bO (0+(I).toNat)) 1 y)),(55,(vI (y.length:Int))),(56,(vI (j:Int)))]:SL_)) p.1 p.2)) (λk x s=>iE y a I k x s) ì (List.range ((y.length:Int)).toNat) ((d.1,d.2.1,d.2.2),m) Ç rfl (cz (C1:=([((av 0),some (.cells 2 [(.vs (av 1) 1 0 a.f_can.length),(vI a.f_camps)])),((av 1),some (.cells 1 (aJ 1 bO a.f_can))),(b,some (bV 1 eI d.1)),(m,some (bV 1 eI d.2.1))]:Hp)) (T:=(aS 1 eI bO a.f_can)) [0,1,2,3] (by decide) rfl rfl) ?_ ?_
      ·rintro ⟨j,È,c,f⟩ ⟨O,L⟩
       dsimp only at O L
       cases È with
       | nil =>
        obtain rfl:=ae O
        refine ai (aa (vB (decide ((j:Int)<(y.length:Int)))) (af ?_))
        refine ak (ay rfl (pM L) (aY ?_))
        exact aW (c,f) rfl rfl (cz (C1:=([((av 0),some (.cells 2 [(.vs (av 1) 1 0 a.f_can.length),(vI a.f_camps)])),((av 1),some (.cells 1 (aJ 1 bO a.f_can))),(b,some (bV 1 eI c.1)),(f,some (bV 1 eI c.2.1))]:Hp)) (T:=(aS 1 eI bO a.f_can)) [0,1,2,3] (by decide) rfl rfl)
       | cons ó È =>
        obtain ⟨Ì,u,O⟩:=bind_some O
        refine ai (aa (vB (decide ((j:Int)<(y.length:Int)))) (af ?_))
        refine ak (aA rfl (ol L) (ax ?_))
        unfold iE at u
        refine ak (aQ (ai (aa (vI (j:Int)) ?_)))
        obtain ⟨_,Ò,u⟩:=bind_some u
        refine jv ic rfl rfl (fF Ò) (dC Ò) wz ?_
        obtain ⟨ò,Þ,u⟩:=bind_some u
        obtain ⟨R,ã,u⟩:=bind_some u
        refine lu (H0:=(([((av 0),some (.cells 2 [(.vs (av 1) 1 0 a.f_can.length),(vI a.f_camps)])),((av 1),some (.cells 1 (aJ 1 bO a.f_can))),(b,some (bV 1 eI c.1)),(f,some (bV 1 eI c.2.1))]:Hp)++(aS 1 eI bO a.f_can))) rfl (Hq 0 il ft sz3 ag3 rfl Þ ã (vI R) rfl wz (aa (vI (j:Int)) (aa (vI R) (af (ak ?_)))))
        obtain ⟨î,B,u⟩:=bind_some u
        refine aU [(0,(.ref (av 0) 0 0)),(2,(vI q)),(8,(vV b 1 c.1)),(10,(qV f 1 c.2.1 c.2.2)),(11,(vI (j:Int))),(54,(gV (bO (0+(I).toNat)) 1 y)),(55,(vI (y.length:Int))),(56,(vI (j:Int))),(69,(vB î))] (([((av 0),some (.cells 2 [(.vs (av 1) 1 0 a.f_can.length),(vI a.f_camps)])),((av 1),some (.cells 1 (aJ 1 bO a.f_can))),(b,some (bV 1 eI c.1)),(f,some (bV 1 eI c.2.1))]:Hp)++(aS 1 eI bO a.f_can)) ?_ ?_
        ·refine au (aa (vI R) (aa (vB (decide (R>0))) ?_))
         rcases aj B with⟨Ã,B⟩|⟨Ã,B⟩
         ·refine aB rfl Ã wz (aL (vV b 1 c.1) wa rfl (aL (vI (j:Int)) wa rfl ?_))
          obtain ⟨_,Ó,B⟩:=bind_some B
          refine j6 ic rfl rfl (fF Ó) (dC Ó) wa ?_
          obtain ⟨À,ä,B⟩:=bind_some B
          refine A7 0 2 il ft sz3 ag3 rfl rfl ä (vI À) rfl wa (aL (vB (decide (À<0))) wa rfl (aa (vB (decide (À<0))) (af ?_)))
          obtain rfl:=ae B
          exact aW () trivial rfl (cz (C1:=([((av 0),some (.cells 2 [(.vs (av 1) 1 0 a.f_can.length),(vI a.f_camps)])),((av 1),some (.cells 1 (aJ 1 bO a.f_can))),(b,some (bV 1 eI c.1)),(f,some (bV 1 eI c.2.1))]:Hp)) (T:=(aS 1 eI bO a.f_can)) [0,1,2,3] (by decide) rfl rfl)
         ·refine aB rfl Ã wz (ah (ah (ah (ah (ah (aa (vB false) (af ?_)))))))
          obtain rfl:=ae B
          exact aW () trivial rfl (cz (C1:=([((av 0),some (.cells 2 [(.vs (av 1) 1 0 a.f_can.length),(vI a.f_camps)])),((av 1),some (.cells 1 (aJ 1 bO a.f_can))),(b,some (bV 1 eI c.1)),(f,some (bV 1 eI c.2.1))]:Hp)) (T:=(aS 1 eI bO a.f_can)) [0,1,2,3] (by decide) rfl rfl)
        ·rintro ⟨⟩ _ Q H v w
         refine aR _ v w ?_
         obtain ⟨z,l,u⟩:=bind_some u
         refine kr (β:=Nm) (λ(G:Nm)=>([(0,(.ref (av 0) 0 0)),(2,(vI q)),(8,(vV b 1 z.1)),(10,(qV G 1 z.2.1 z.2.2)),(54,(gV (bO (0+(I).toNat)) 1 y)),(55,(vI (y.length:Int))),(56,(vI (j:Int)))]:SL_)) (λ(G:Nm)=>(([((av 0),some (.cells 2 [(.vs (av 1) 1 0 a.f_can.length),(vI a.f_camps)])),((av 1),some (.cells 1 (aJ 1 bO a.f_can))),(b,some (bV 1 eI z.1)),(G,some (bV 1 eI z.2.1))]:Hp)++(aS 1 eI bO a.f_can))) (λ_=>True) ?_ ?_
         ·rcases aj l with⟨Ä,l⟩|⟨Ä,l⟩
          ·refine aA rfl Ä (ai (aa (vV b 1 c.1) (aa (vI (j:Int)) (aa (qV f 1 c.2.1 c.2.2) ?_))))
           obtain ⟨_,Ô,l⟩:=bind_some l
           refine j6 ic rfl rfl (lT Ô) (je Ô) wz ?_
           obtain ⟨J,å,l⟩:=bind_some l
           refine A7 0 3 il ft sz3 ag3 rfl rfl å (vI J) rfl wz ?_
           obtain ⟨_,Õ,l⟩:=bind_some l
           refine j6 ic rfl rfl (fF Õ) (dC Õ) wz ?_
           obtain ⟨ñ,æ,l⟩:=bind_some l
           refine yY 0 il ft 2 sz3 rfl rfl æ J rfl wz (fK (v':=(vV b 1 (c.1.set (0+((j:Int)).toNat) J))) 8 rfl (uu (by simp)) (fK (v':=(vV b 1 (c.1.set (0+((j:Int)).toNat) J))) 70 rfl (uu (by simp)) (af (au (aa (qV f 1 c.2.1 c.2.2) (aa (vI (j:Int)) (gL (([(j:Int)]:List Int).map eI) ic AV rfl rfl rfl rfl rfl wz ?_)))))))
           obtain ⟨_,Ø,l⟩:=bind_some l
           obtain ⟨Ë,è,l⟩:=bind_some l
           refine h_appq 0 il ft (i:=3) Bh Bh sz3 z3 rfl (by decide) by3 (by decide) (λ_=>rfl) rfl (leN_le Ø) rfl rfl (List.cons_ne_nil _ _) è wz (λÊ=>aa (vV Ê 1 Ë) (af ?_))
           obtain rfl:=ae l
           exact aW Ê trivial rfl (cz (C1:=([((av 0),some (.cells 2 [(.vs (av 1) 1 0 a.f_can.length),(vI a.f_camps)])),((av 1),some (.cells 1 (aJ 1 bO a.f_can))),(b,some (bV 1 eI (c.1.set (0+((j:Int)).toNat) J))),(Ê,some (bV 1 eI Ë))]:Hp)) (T:=(aS 1 eI bO a.f_can)) [0,1,2,3] (by decide) rfl rfl)
          ·refine ay rfl Ä (ax ?_)
           obtain rfl:=ae l
           exact aW f trivial rfl (cz (C1:=([((av 0),some (.cells 2 [(.vs (av 1) 1 0 a.f_can.length),(vI a.f_camps)])),((av 1),some (.cells 1 (aJ 1 bO a.f_can))),(b,some (bV 1 eI c.1)),(f,some (bV 1 eI c.2.1))]:Hp)) (T:=(aS 1 eI bO a.f_can)) [0,1,2,3] (by decide) rfl rfl)
         ·rintro G _ Q H v w
          refine aR _ v w (au (dS (pO L Ü) wz rfl (aa (vI ((j+1:Nat):Int)) (af ?_))))
          obtain rfl:=ae u
          exact aZ (j+1,È,(z.1,z.2.1,z.2.2),G) ⟨O,aV L⟩ (ls_ _) rfl (cz (C1:=([((av 0),some (.cells 2 [(.vs (av 1) 1 0 a.f_can.length),(vI a.f_camps)])),((av 1),some (.cells 1 (aJ 1 bO a.f_can))),(b,some (bV 1 eI z.1)),(G,some (bV 1 eI z.2.1))]:Hp)) (T:=(aS 1 eI bO a.f_can)) [0,1,2,3] (by decide) rfl rfl)
      ·rintro ⟨c,f⟩ P Q H v w
       subst P
       refine aR _ v w (au (aa (qV f 1 c.2.1 c.2.2) ?_))
       obtain ⟨_,Ù,g⟩:=bind_some g
       refine h_qpop (n:=f) (xs:=c.2.1) (k:=c.2.2) ug sz3 rfl (ltN_lt Ù) wz (aa (qV f 1 c.2.1 (c.2.2+1)) (af ?_))
       obtain rfl:=ae g
       exact aZ (W,(c.1,c.2.1,(c.2.2+1)),f) E (ls_ _) rfl (cz (C1:=([((av 0),some (.cells 2 [(.vs (av 1) 1 0 a.f_can.length),(vI a.f_camps)])),((av 1),some (.cells 1 (aJ 1 bO a.f_can))),(b,some (bV 1 eI c.1)),(f,some (bV 1 eI c.2.1))]:Hp)) (T:=(aS 1 eI bO a.f_can)) [0,1,2,3] (by decide) rfl rfl)
     ·refine ay rfl Â (aY ?_)
      obtain rfl:=ae g
      obtain rfl:=ae E
      exact aW ((d.1,d.2.1,d.2.2),m) rfl rfl (cz (C1:=([((av 0),some (.cells 2 [(.vs (av 1) 1 0 a.f_can.length),(vI a.f_camps)])),((av 1),some (.cells 1 (aJ 1 bO a.f_can))),(b,some (bV 1 eI d.1)),(m,some (bV 1 eI d.2.1))]:Hp)) (T:=(aS 1 eI bO a.f_can)) [0,1,2,3] (by decide) rfl rfl)
  ·rintro ⟨d,m⟩ P Q H v w
   subst P
   refine aR _ v w (ak (bv (aa (vV b 1 d.1) (aa (vV b 1 d.1) (aa (vI q) ?_)))))
   obtain ⟨_,Ö,o⟩:=bind_some o
   refine j6 ic rfl rfl (fF Ö) (dC Ö) wz ?_
   obtain ⟨U,ç,o⟩:=bind_some o
   refine A7 4 2 (.inr (by kernel_rfl)) (λ_ _ ag=>trivial) sz3 ag3 rfl rfl ç (vI U) rfl wz (aa (vB (decide (U>=0))) (aa (vV b 1 d.1) (aa (vB (decide (U>=0))) (af (Dp 2 rfl (yX 6 2 rfl rfl (yX 8 2 rfl rfl (yX 81 2 rfl rfl (yX 82 2 rfl rfl ?_)))))))))
   obtain rfl:=ae o
   exact aC (NT (k:=2) (cs:=[(vI a.f_camps)]) (cs':=[(vI a.f_camps)]) (rows:=a.f_can) (rows':=a.f_can) ([(b,some (bF 1 eI d.1)),(m,some (bV 1 eI d.2.1))]:Hp) (.inr rfl) [(vL eI d.1),(vB (decide (U>=0)))] ⟨rfl,⟨rfl,trivial⟩⟩ rfl rfl rfl rfl rfl rfl)
theorem qY {b:Web} {j:Int} {l:Int} {m:Int} {r:Int×Web} (v:iH b j l m=some r) :
  FnM Tryz.prog 16 [(.ref (av 0) 0 0),(vI j),(vI l),(vI m)] (lh 2 1 eI [(vI b.f_camps)] b.f_can) (vI r.1) (iq 2 1 eI [(vI r.2.f_camps)] r.2.f_can):=by
 refine FnM.of_wHg (cs:=[(vI b.f_camps)]) ⟨Tryz.prog,97,[],[]⟩ rfl Tryz.func16 rfl rfl (lb_ rfl) (by kernel_rfl) ?_
 unfold iH at v
 refine ai (aa (vI 0) (af (ai (aa (vI 0) (af (ak ?_))))))
 obtain ⟨Ü,K,v⟩:=bind_some v
 obtain ⟨Û,K⟩:=bW K
 refine dY (λ(d:(List (List Int))×Int)=>[(9,(vI d.2))]) (λ(d:(List (List Int))×Int)=>(([((av 0),some (.cells 2 [(.vs (av 1) 1 0 b.f_can.length),(vI b.f_camps)])),((av 1),some (.cells 1 (aJ 1 bO d.1)))]:Hp)++(aS 1 eI bO d.1))) (λ(F:Nat)=>(λ(d:(List (List Int))×Int)=>[(0,(.ref (av 0) 0 0)),(1,(vI j)),(2,(vI l)),(3,(vI m)),(9,(vI d.2))])) (λs=>fB m b j l s) Ü Û (b.f_can,0) K rfl (cz (C1:=([((av 0),some (.cells 2 [(.vs (av 1) 1 0 b.f_can.length),(vI b.f_camps)])),((av 1),some (.cells 1 (aJ 1 bO b.f_can)))]:Hp)) (T:=(aS 1 eI bO b.f_can)) [0,1] (by decide) rfl rfl) ?_ ?_
 ·rintro ⟨F,d⟩ u
  dsimp only at u
  cases F with
  | zero=>cases u
  | succ F =>
   obtain ⟨Q,f,u⟩:=bind_some u
   unfold fB at f
   refine ak (ai (aa (vI d.2) (aa (vI m) (aa (vB (decide (d.2<m))) (af ?_)))))
   rcases aj f with⟨G,f⟩|⟨G,f⟩
   ·refine aA rfl G (ax (aQ (ai (aa (.ref (av 0) 0 0) (aa (vI j) (aa (vI l) ?_))))))
    obtain ⟨_,Æ,f⟩:=bind_some f
    obtain ⟨_,Å,f⟩:=bind_some f
    obtain ⟨h,Ç,f⟩:=bind_some f
    refine lu (H0:=(([((av 0),some (.cells 2 [(.vs (av 1) 1 0 b.f_can.length),(vI b.f_camps)])),((av 1),some (.cells 1 (aJ 1 bO d.1)))]:Hp)++(aS 1 eI bO d.1))) rfl (sP 0 0 1 il ft (zw Ç) rfl hb39 rfl rfl (by decide) (nR Å) (uo Æ) rfl (by kernel_rfl) (λ_=>by kernel_rfl) (by kernel_rfl) (by kernel_rfl) wz (aa (.tup [(vL eI h.1),(vB h.2)]) (aa (vL eI h.1) (aa (vB h.2) (aa (vL eI h.1) (aa (vB h.2) (af (ak (ai (aa (vB h.2) (aa (vB (!h.2)) (af ?_))))))))))))
    rcases aj f with⟨H,f⟩|⟨H,f⟩
    ·refine aA rfl H (aY ?_)
     obtain rfl:=ae f
     obtain rfl:=ae u
     exact aW ((d.1,d.2)) rfl rfl (cz (C1:=([((av 0),some (.cells 2 [(.vs (av 1) 1 0 b.f_can.length),(vI b.f_camps)])),((av 1),some (.cells 1 (aJ 1 bO d.1)))]:Hp)) (T:=(aS 1 eI bO d.1)) [0,1] (by decide) rfl rfl)
    ·refine ay rfl H (ax (ai (aa (vI m) (aa (vI d.2) (aa (vI (w64 (m-d.2))) (aa (vI (w64 (m-d.2))) (af (ak (ai (aa (vI l) (aa (vI l) (af ?_))))))))))))
     obtain ⟨Ý,L,f⟩:=bind_some f
     obtain ⟨Ú,L⟩:=bW L
     refine dY (λ(c:Int×Int)=>[(0,(.ref (av 0) 0 0)),(1,(vI j)),(2,(vI l)),(3,(vI m)),(9,(vI d.2)),(10,(vL eI h.1)),(12,(vI c.1))]) (λ(c:Int×Int)=>(([((av 0),some (.cells 2 [(.vs (av 1) 1 0 b.f_can.length),(vI b.f_camps)])),((av 1),some (.cells 1 (aJ 1 bO d.1)))]:Hp)++(aS 1 eI bO d.1))) (λ(C:Nat)=>(λ(c:Int×Int)=>[(0,(.ref (av 0) 0 0)),(1,(vI j)),(2,(vI l)),(3,(vI m)),(9,(vI d.2)),(10,(vL eI h.1)),(12,(vI c.1)),(13,(vI c.2))])) (λs=>fA j h b d s) Ý Ú ((w64 (m-d.2)),l) L rfl (cz (C1:=([((av 0),some (.cells 2 [(.vs (av 1) 1 0 b.f_can.length),(vI b.f_camps)])),((av 1),some (.cells 1 (aJ 1 bO d.1)))]:Hp)) (T:=(aS 1 eI bO d.1)) [0,1] (by decide) rfl rfl) ?_ ?_
     ·rintro ⟨C,c⟩ w
      dsimp only at w
      cases C with
      | zero=>cases w
      | succ C =>
       obtain ⟨Q,g,w⟩:=bind_some w
       unfold fA at g
       refine ak (ai (aa (vI c.2) (aa (vI j) (aa (vB (c.2 != j)) (af ?_)))))
       rcases aj g with⟨I,g⟩|⟨I,g⟩
       ·refine aA rfl I (ax (ak (aQ (bv (aa (vI c.1) (aa (.ref (av 0) 0 0) (aa (.ref (av 0) 0 0) (aI nk rfl 0 rfl wz (aH 4 0 (.inr (by kernel_rfl)) (λ_ _ ag=>trivial) yO yK rfl rfl (.vs (av 1) 1 0 b.f_can.length) rfl wz (aa (vL eI h.1) (aa (vI c.2) ?_)))))))))))
        obtain ⟨ß,Î,g⟩:=bind_some g
        refine dI ic rfl rfl Î rfl wz (bH sz3 ag3 rfl (vI ß) rfl wz ?_)
        obtain ⟨_,R,g⟩:=bind_some g
        refine j6 zY rfl rfl (lT R) (je R) wz ?_
        obtain ⟨â,È,g⟩:=bind_some g
        refine pu 10 1 (.inr (by kernel_rfl)) (λ_ _ ag=>⟨.inl ⟨rfl,rfl⟩,trivial⟩) uw wo rfl rfl È wz (aa (vI c.2) ?_)
        obtain ⟨_,U,g⟩:=bind_some g
        refine jv ic rfl rfl (fF U) (dC U) wz ?_
        obtain ⟨ã,É,g⟩:=bind_some g
        obtain ⟨B,Ï,g⟩:=bind_some g
        refine lu (H0:=(([((av 0),some (.cells 2 [(.vs (av 1) 1 0 b.f_can.length),(vI b.f_camps)])),((av 1),some (.cells 1 (aJ 1 bO d.1)))]:Hp)++(aS 1 eI bO d.1))) rfl (Hq 13 (.inr (by kernel_rfl)) (λ_ _ ag=>⟨.inl ⟨rfl,rfl⟩,⟨.inl ⟨rfl,rfl⟩,trivial⟩⟩) sz3 ag3 rfl É Ï (vI B) rfl wz (qm (vI (zi c.1 B)) rfl (.inl rfl) wz (aa (vI (zi c.1 B)) (af (au (aa (vL eI h.1) (aa (vI c.2) ?_)))))))
        obtain ⟨N,Ð,g⟩:=bind_some g
        refine dI ic rfl rfl Ð rfl wz (bH sz3 ag3 rfl (vI N) rfl wz (aa (vI N) (af ?_)))
        obtain rfl:=ae g
        exact aZ (C,((zi c.1 B),N)) w (ls_ _) rfl (cz (C1:=([((av 0),some (.cells 2 [(.vs (av 1) 1 0 b.f_can.length),(vI b.f_camps)])),((av 1),some (.cells 1 (aJ 1 bO d.1)))]:Hp)) (T:=(aS 1 eI bO d.1)) [0,1] (by decide) rfl rfl)
       ·refine ay rfl I (aY ?_)
        obtain rfl:=ae g
        obtain rfl:=ae w
        exact aW ((c.1,c.2)) rfl rfl (cz (C1:=([((av 0),some (.cells 2 [(.vs (av 1) 1 0 b.f_can.length),(vI b.f_camps)])),((av 1),some (.cells 1 (aJ 1 bO d.1)))]:Hp)) (T:=(aS 1 eI bO d.1)) [0,1] (by decide) rfl rfl)
     ·rintro c y Ä P z A
      subst y
      refine aR _ z A (ak (ai (aa (vI l) (aa (vI l) (af ?_)))))
      obtain ⟨Þ,M,f⟩:=bind_some f
      obtain ⟨Ù,M⟩:=bW M
      refine dY (λ(a:(List (List Int))×Int)=>[(0,(.ref (av 0) 0 0)),(1,(vI j)),(2,(vI l)),(3,(vI m)),(9,(vI d.2)),(12,(vI c.1))]) (λ(a:(List (List Int))×Int)=>(([((av 0),some (.cells 2 [(.vs (av 1) 1 0 b.f_can.length),(vI b.f_camps)])),((av 1),some (.cells 1 (aJ 1 bO a.1)))]:Hp)++(aS 1 eI bO a.1))) (λ(E:Nat)=>(λ(a:(List (List Int))×Int)=>[(0,(.ref (av 0) 0 0)),(1,(vI j)),(2,(vI l)),(3,(vI m)),(9,(vI d.2)),(10,(vL eI h.1)),(12,(vI c.1)),(14,(vI a.2))])) (λs=>fE j h b c s) Þ Ù (d.1,l) M rfl (cz (C1:=([((av 0),some (.cells 2 [(.vs (av 1) 1 0 b.f_can.length),(vI b.f_camps)])),((av 1),some (.cells 1 (aJ 1 bO d.1)))]:Hp)) (T:=(aS 1 eI bO d.1)) [0,1] (by decide) rfl rfl) ?_ ?_
      ·rintro ⟨E,a⟩ x
       dsimp only at x
       cases E with
       | zero=>cases x
       | succ E =>
        obtain ⟨Q,e,x⟩:=bind_some x
        unfold fE at e
        refine ak (ai (aa (vI a.2) (aa (vI j) (aa (vB (a.2 != j)) (af ?_)))))
        rcases aj e with⟨J,e⟩|⟨J,e⟩
        ·refine aA rfl J (ax (ak (aQ (ak (bv (aa (.ref (av 0) 0 0) (aa (.ref (av 0) 0 0) (aI nk rfl 0 rfl wz (aH 3 0 (.inr (by kernel_rfl)) (λ_ _ ag=>trivial) yO yK rfl rfl (.vs (av 1) 1 0 b.f_can.length) rfl wz (aa (vL eI h.1) (aa (vI a.2) ?_)))))))))))
         obtain ⟨n,Ñ,e⟩:=bind_some e
         refine dI ic rfl rfl Ñ rfl wz (bH sz3 ag3 rfl (vI n) rfl wz ?_)
         obtain ⟨_,W,e⟩:=bind_some e
         refine j6 zY rfl rfl (lT W) (je W) wz ?_
         obtain ⟨ä,Ê,e⟩:=bind_some e
         refine pu 9 1 (.inr (by kernel_rfl)) (λ_ _ ag=>⟨.inl ⟨rfl,rfl⟩,trivial⟩) uw wo rfl rfl Ê wz (aa (vI a.2) ?_)
         obtain ⟨_,X,e⟩:=bind_some e
         refine jv ic rfl rfl (fF X) (dC X) wz ?_
         obtain ⟨å,Ë,e⟩:=bind_some e
         obtain ⟨i,Ò,e⟩:=bind_some e
         refine lu (H0:=(([((av 0),some (.cells 2 [(.vs (av 1) 1 0 b.f_can.length),(vI b.f_camps)])),((av 1),some (.cells 1 (aJ 1 bO a.1)))]:Hp)++(aS 1 eI bO a.1))) rfl (Hq 12 (.inr (by kernel_rfl)) (λ_ _ ag=>⟨.inl ⟨rfl,rfl⟩,⟨.inl ⟨rfl,rfl⟩,trivial⟩⟩) sz3 ag3 rfl Ë Ò (vI i) rfl wz (aa (vI c.1) (aa (vI (w64 (i-c.1))) ?_)))
         obtain ⟨_,Y,e⟩:=bind_some e
         refine jv ic rfl rfl (fF Y) (dC Y) wz ?_
         obtain ⟨o,Â,e⟩:=bind_some e
         obtain ⟨à,Ó,e⟩:=bind_some e
         refine lu (H0:=(([((av 0),some (.cells 2 [(.vs (av 1) 1 0 b.f_can.length),(vI b.f_camps)])),((av 1),some (.cells 1 (aJ 1 bO a.1)))]:Hp)++(aS 1 eI bO a.1))) rfl (AC 16 (.inr (by kernel_rfl)) (λ_ _ ag=>⟨.inr (.inr (by kernel_rfl)),⟨.inr (.inr (by kernel_rfl)),⟨.inr (.inr (by kernel_rfl)),trivial⟩⟩⟩) sz3 rfl Â Ó (w64 (i-c.1)) rfl wz (xC (b':=some (.cells 1 (aJ 1 bO (a.1.set (0+(n).toNat) (o.set (0+(a.2).toNat) (w64 (i-c.1))))))) 1 rfl (rJ Â) (af (bv (aa (.ref (av 0) 0 0) (aa (.ref (av 0) 0 0) (aI nk rfl 0 rfl wz (aH 3 0 (.inr (by kernel_rfl)) (λ_ _ ag=>trivial) yO yK rfl rfl (.vs (av 1) 1 0 b.f_can.length) rfl wz (aa (vI a.2) ?_)))))))))
         obtain ⟨_,Z,e⟩:=bind_some e
         refine j6 zY rfl rfl (lT Z) (je Z) wz ?_
         obtain ⟨æ,Ì,e⟩:=bind_some e
         refine pu 6 1 (.inr (by kernel_rfl)) (λ_ _ ag=>⟨.inl ⟨rfl,rfl⟩,trivial⟩) uw wo rfl rfl Ì wz (aa (vL eI h.1) (aa (vI a.2) ?_))
         obtain ⟨q,Ô,e⟩:=bind_some e
         refine dI ic rfl rfl Ô rfl wz (bH sz3 ag3 rfl (vI q) rfl wz ?_)
         obtain ⟨_,À,e⟩:=bind_some e
         refine jv ic rfl rfl (fF À) (dC À) wz ?_
         obtain ⟨ç,Í,e⟩:=bind_some e
         obtain ⟨p,Õ,e⟩:=bind_some e
         refine lu (H0:=(([((av 0),some (.cells 2 [(.vs (av 1) 1 0 b.f_can.length),(vI b.f_camps)])),((av 1),some (.cells 1 (aJ 1 bO (a.1.set (0+(n).toNat) (o.set (0+(a.2).toNat) (w64 (i-c.1)))))))]:Hp)++(aS 1 eI bO (a.1.set (0+(n).toNat) (o.set (0+(a.2).toNat) (w64 (i-c.1))))))) rfl (Hq 12 (.inr (by kernel_rfl)) (λ_ _ ag=>⟨.inl ⟨rfl,rfl⟩,⟨.inl ⟨rfl,rfl⟩,trivial⟩⟩) sz3 ag3 rfl Í Õ (vI p) rfl wz (aa (vI c.1) (aa (vI (w64 (p+c.1))) ?_)))
         obtain ⟨_,Á,e⟩:=bind_some e
         refine jv ic rfl rfl (fF Á) (dC Á) wz ?_
         obtain ⟨t,Ã,e⟩:=bind_some e
         obtain ⟨á,Ö,e⟩:=bind_some e
         refine lu (H0:=(([((av 0),some (.cells 2 [(.vs (av 1) 1 0 b.f_can.length),(vI b.f_camps)])),((av 1),some (.cells 1 (aJ 1 bO (a.1.set (0+(n).toNat) (o.set (0+(a.2).toNat) (w64 (i-c.1)))))))]:Hp)++(aS 1 eI bO (a.1.set (0+(n).toNat) (o.set (0+(a.2).toNat) (w64 (i-c.1))))))) rfl (AC 16 (.inr (by kernel_rfl)) (λ_ _ ag=>⟨.inr (.inr (by kernel_rfl)),⟨.inr (.inr (by kernel_rfl)),⟨.inr (.inr (by kernel_rfl)),trivial⟩⟩⟩) sz3 rfl Ã Ö (w64 (p+c.1)) rfl wz (xC (b':=some (.cells 1 (aJ 1 bO ((a.1.set (0+(n).toNat) (o.set (0+(a.2).toNat) (w64 (i-c.1)))).set (0+(a.2).toNat) (t.set (0+(q).toNat) (w64 (p+c.1))))))) 1 rfl (rJ Ã) (af (aR (H0:=(([((av 0),some (.cells 2 [(.vs (av 1) 1 0 b.f_can.length),(vI b.f_camps)])),((av 1),some (.cells 1 (aJ 1 bO ((a.1.set (0+(n).toNat) (o.set (0+(a.2).toNat) (w64 (i-c.1)))).set (0+(a.2).toNat) (t.set (0+(q).toNat) (w64 (p+c.1)))))))]:Hp)++(aS 1 eI bO ((a.1.set (0+(n).toNat) (o.set (0+(a.2).toNat) (w64 (i-c.1)))).set (0+(a.2).toNat) (t.set (0+(q).toNat) (w64 (p+c.1))))))) ([(0,(.ref (av 0) 0 0)),(1,(vI j)),(2,(vI l)),(3,(vI m)),(9,(vI d.2)),(10,(vL eI h.1)),(12,(vI c.1)),(14,(vI a.2))]:SL_) (by kernel_rfl) (cz (C1:=([((av 0),some (.cells 2 [(.vs (av 1) 1 0 b.f_can.length),(vI b.f_camps)])),((av 1),some (.cells 1 (aJ 1 bO ((a.1.set (0+(n).toNat) (o.set (0+(a.2).toNat) (w64 (i-c.1)))).set (0+(a.2).toNat) (t.set (0+(q).toNat) (w64 (p+c.1)))))))]:Hp)) (T:=(aS 1 eI bO ((a.1.set (0+(n).toNat) (o.set (0+(a.2).toNat) (w64 (i-c.1)))).set (0+(a.2).toNat) (t.set (0+(q).toNat) (w64 (p+c.1)))))) [0,1] (by decide) (by kernel_rfl) (by kernel_rfl)) (au (aa (vL eI h.1) (aa (vI a.2) ?_)))))))
         obtain ⟨O,Ø,e⟩:=bind_some e
         refine dI ic rfl rfl Ø rfl wz (bH sz3 ag3 rfl (vI O) rfl wz (aa (vI O) (af ?_)))
         obtain rfl:=ae e
         exact aZ (E,(((a.1.set (0+(n).toNat) (o.set (0+(a.2).toNat) (w64 (i-c.1)))).set (0+(a.2).toNat) (t.set (0+(q).toNat) (w64 (p+c.1)))),O)) x (ls_ _) rfl (cz (C1:=([((av 0),some (.cells 2 [(.vs (av 1) 1 0 b.f_can.length),(vI b.f_camps)])),((av 1),some (.cells 1 (aJ 1 bO ((a.1.set (0+(n).toNat) (o.set (0+(a.2).toNat) (w64 (i-c.1)))).set (0+(a.2).toNat) (t.set (0+(q).toNat) (w64 (p+c.1)))))))]:Hp)) (T:=(aS 1 eI bO ((a.1.set (0+(n).toNat) (o.set (0+(a.2).toNat) (w64 (i-c.1)))).set (0+(a.2).toNat) (t.set (0+(q).toNat) (w64 (p+c.1)))))) [0,1] (by decide) rfl rfl)
        ·refine ay rfl J (aY ?_)
         obtain rfl:=ae e
         obtain rfl:=ae x
         exact aW ((a.1,a.2)) rfl rfl (cz (C1:=([((av 0),some (.cells 2 [(.vs (av 1) 1 0 b.f_can.length),(vI b.f_camps)])),((av 1),some (.cells 1 (aJ 1 bO a.1)))]:Hp)) (T:=(aS 1 eI bO a.1)) [0,1] (by decide) rfl rfl)
      ·rintro a y Ä P z A
       subst y
       refine aR _ z A (au (aa (vI d.2) (aa (vI c.1) (aa (vI (w64 (d.2+c.1))) (aa (vI (w64 (d.2+c.1))) (af ?_))))))
       obtain rfl:=ae f
       exact aZ (F,(a.1,(w64 (d.2+c.1)))) u (ls_ _) rfl (cz (C1:=([((av 0),some (.cells 2 [(.vs (av 1) 1 0 b.f_can.length),(vI b.f_camps)])),((av 1),some (.cells 1 (aJ 1 bO a.1)))]:Hp)) (T:=(aS 1 eI bO a.1)) [0,1] (by decide) rfl rfl)
   ·refine ay rfl G (aY ?_)
    obtain rfl:=ae f
    obtain rfl:=ae u
    exact aW ((d.1,d.2)) rfl rfl (cz (C1:=([((av 0),some (.cells 2 [(.vs (av 1) 1 0 b.f_can.length),(vI b.f_camps)])),((av 1),some (.cells 1 (aJ 1 bO d.1)))]:Hp)) (T:=(aS 1 eI bO d.1)) [0,1] (by decide) rfl rfl)
 ·rintro d y Ä P z A
  subst y
  refine aR _ z A (ai (aa (vI d.2) (aa (vI d.2) (af ?_))))
  obtain ⟨_,hk_,v⟩:=bind_some v
  obtain rfl:=ae v
  exact aC (NT (k:=2) (cs:=[(vI b.f_camps)]) (cs':=[(vI b.f_camps)]) (rows:=b.f_can) (rows':=d.1) ([]:Hp) (.inr rfl) [(vI d.2)] ⟨rfl,trivial⟩ rfl rfl rfl rfl (lH hk_) rfl)
theorem Bi {b:(List Campaign)} {r:Int} (h:nI b=some r) :
  FnM Tryz.prog 17 [(vL Campaign.enc b)] [] (vI r) []:=by
 refine FnM.of_wH ⟨Tryz.prog,18,[],[]⟩ rfl Tryz.func17 rfl rfl (lb_ rfl) (by kernel_rfl) ?_
 unfold nI at h
 refine ai (aa (vI 0) (af (ai (aa (vI 0) (af (ak (ai (aa (vL Campaign.enc b) (bQ I6 rfl wz (aa (vI 0) (af ?_)))))))))))
 obtain ⟨q,i,h⟩:=bind_some h
 obtain ⟨m,i⟩:=bn i
 refine dB (λ(a:Int)=>[(3,(vI a))]) (λ(a:Int)=>[]) (λ(e:Nat)=>(λ(a:Int)=>[(3,(vI a)),(6,(vL Campaign.enc b)),(7,(vI (b.length:Int))),(8,(vI (e:Int)))])) (λk x s=>kR k x s) q b 0 i rfl (aK rfl) ?_ ?_
 ·rintro ⟨e,j,a⟩ ⟨g,c⟩
  dsimp only at g c
  cases j with
  | nil =>
   obtain rfl:=ae g
   refine ai (aa (vB (decide ((e:Int)<(b.length:Int)))) (af ?_))
   refine ak (ay rfl (drop_nil c) (aY ?_))
   exact aW (a) rfl rfl (aK rfl)
  | cons f j =>
   obtain ⟨u,l,g⟩:=bind_some g
   refine ai (aa (vB (decide ((e:Int)<(b.length:Int)))) (af ?_))
   refine ak (aA rfl (bE c) (ax ?_))
   unfold kR at l
   refine ak (aQ (ai (dI F8 rfl rfl (bN c) rfl wz (bH wQ FM rfl (.d (.agg (Campaign.enc f))) rfl wz (dz 0 (.inl rfl) z58 rfl wz (λw=>gp 0 il ft 0 wQ rfl rfl (Campaign.v f) rfl wz (af (au (aa (vI a) (aI zH rfl 5 rfl wz (aH 0 0 il ft sz3 ag3 rfl rfl (vI f.Goal) rfl wz (aa (vI (w64 (a+f.Goal))) (aa (vI (w64 (a+f.Goal))) (af (au (dS (bC c m) wz rfl (aa (vI ((e+1:Nat):Int)) (af ?_))))))))))))))))))
   obtain rfl:=ae l
   exact aZ (e+1,j,(w64 (a+f.Goal))) ⟨g,aV c⟩ (ls_ _) rfl (aK rfl)
 ·rintro a n y t o p
  subst n
  refine aR _ o p (ai (aa (vI a) (aa (vI a) (af ?_))))
  obtain rfl:=ae h
  exact aC (aO [(vI a)] ⟨rfl,trivial⟩)
theorem Dj {w:(List Spot)} {y:(List Campaign)} {r:(List Share)×Int} (q:kY w y=some r) :
  FnM Tryz.prog 6 [(vL Spot.enc w),(vL Campaign.enc y)] [] (.tup [(vL Share.enc r.1),(vI r.2)]) []:=by
 refine FnM.of_wH ⟨Tryz.prog,133,[],[]⟩ rfl Tryz.func6 rfl rfl (lb_ rfl) (by kernel_rfl) ?_
 unfold kY at q
 refine ai (aa .nil (aa (vI 0) (af (ak (ai (aa (vL Spot.enc w) (aa (vL Campaign.enc y) ?_)))))))
 obtain ⟨M,ð,q⟩:=bind_some q
 refine aG (xm ð) rfl hb14 rfl rfl rfl rfl wz (aa (vI M) (af (ai (aa (vI M) (aa (vB (M != 0)) (af ?_))))))
 rcases aj q with⟨Ã,q⟩|⟨Ã,q⟩
 ·refine aA rfl Ã (ai (aa (vI M) (aa .nil (aa (vI M) (af ?_)))))
  obtain rfl:=ae q
  exact aC (aO [.nil,(vI M)] ⟨rfl,⟨rfl,trivial⟩⟩)
 ·refine ay rfl Ã (ax (ai (aa (vL Spot.enc w) (aa (vL Campaign.enc y) ?_))))
  obtain ⟨g,ø,q⟩:=bind_some q
  obtain ⟨_,æ,q⟩:=bind_some q
  refine Rt (Aw ø) rfl hb15 (uo æ) rfl (by kernel_rfl) (by kernel_rfl) (by kernel_rfl) wz (λf c e=>aa (.ref f 0 0) (af (ak (ai (aa (.ref f 0 0) ?_)))))
  obtain ⟨_,ç,q⟩:=bind_some q
  obtain ⟨_,â,q⟩:=bind_some q
  obtain ⟨F,î,q⟩:=bind_some q
  obtain ⟨_,ý,q⟩:=bind_some q
  refine lu (H0:=(([(f,some (.cells 2 [(.vs c 1 0 g.f_can.length),(vI g.f_camps)])),(c,some (.cells 1 (aJ 1 e g.f_can)))]:Hp)++(aS 1 eI e g.f_can))) rfl (Kz 0 0 1 il ft (qY î) rfl hb16 rfl rfl (by decide) (nR â) (uo ç) (lH ý) rfl rfl (by kernel_rfl) (λ_=>by kernel_rfl) (by kernel_rfl) (by kernel_rfl) wz (aa (vL Campaign.enc y) ?_))
  obtain ⟨Ĉ,ï,q⟩:=bind_some q
  refine aG (Bi ï) rfl hb17 rfl rfl rfl rfl wz (aa (vB (decide (F.1<Ĉ))) (af ?_))
  rcases aj q with⟨Á,q⟩|⟨Á,q⟩
  ·refine aA rfl Á (ai (aa .nil (aa (vI 12) (af ?_))))
   obtain rfl:=ae q
   exact aC (aO [.nil,(vI 12)] ⟨rfl,⟨rfl,trivial⟩⟩)
  ·refine ay rfl Á (ax (ai (aa .nil (af (ak (ai (aa (vL Campaign.enc y) (bQ I6 rfl wz (aa (vI 0) (af (jJ (λÊ=>R8 (C0:=([(f,some (.cells 2 [(.vs c 1 0 g.f_can.length),(vI F.2.f_camps)])),(c,some (.cells 1 (aJ 1 e F.2.f_can)))]:Hp)) (T:=(aS 1 eI e F.2.f_can)) (X:=([(Ê,gB 3 Share.enc ([]:List Share))]:Hp)) ?_))))))))))))
   obtain ⟨Ć,Å,q⟩:=bind_some q
   obtain ⟨è,Å⟩:=bn Å
   refine fV (σ:=(List (List Int))×(List Share)×Int) (N:=Nm) (λp=>(λ(o:(List (List Int))×(List Share)×Int) (C:Nm)=>([(8,(gV C 3 o.2.1))]:SL_)) p.1 p.2) (λp=>(λ(o:(List (List Int))×(List Share)×Int) (C:Nm)=>(([(f,some (.cells 2 [(.vs c 1 0 g.f_can.length),(vI o.2.2)])),(c,some (.cells 1 (aJ 1 e o.1))),(C,gB 3 Share.enc o.2.1)]:Hp)++(aS 1 eI e o.1))) p.1 p.2) (λ(A:Nat)=>(λp=>(λ(o:(List (List Int))×(List Share)×Int) (C:Nm)=>([(0,(vL Spot.enc w)),(7,(.ref f 0 0)),(8,(gV C 3 o.2.1)),(32,(vL Campaign.enc y)),(33,(vI (y.length:Int))),(34,(vI (A:Int)))]:SL_)) p.1 p.2)) (λk x s=>jM w g k x s) Ć y ((F.2.f_can,([]:List Share),F.2.f_camps),Ê) Å rfl (cz (C1:=([(f,some (.cells 2 [(.vs c 1 0 g.f_can.length),(vI F.2.f_camps)])),(c,some (.cells 1 (aJ 1 e F.2.f_can))),(Ê,gB 3 Share.enc ([]:List Share))]:Hp)) (T:=(aS 1 eI e F.2.f_can)) [0,1,2] (by decide) rfl rfl) ?_ ?_
   ·rintro ⟨A,È,o,C⟩ ⟨Q,K⟩
    dsimp only at Q K
    cases È with
    | nil =>
     obtain rfl:=ae Q
     refine ai (aa (vB (decide ((A:Int)<(y.length:Int)))) (af ?_))
     refine ak (ay rfl (drop_nil K) (aY ?_))
     exact aW (o,C) rfl rfl (cz (C1:=([(f,some (.cells 2 [(.vs c 1 0 g.f_can.length),(vI o.2.2)])),(c,some (.cells 1 (aJ 1 e o.1))),(C,gB 3 Share.enc o.2.1)]:Hp)) (T:=(aS 1 eI e o.1)) [0,1,2] (by decide) rfl rfl)
    | cons n È =>
     obtain ⟨á,Y,Q⟩:=bind_some Q
     refine ai (aa (vB (decide ((A:Int)<(y.length:Int)))) (af ?_))
     refine ak (aA rfl (bE K) (ax ?_))
     unfold jM at Y
     refine ak (aQ (ai (aa (vI (A:Int)) (dI F8 rfl rfl (bN K) rfl wz (bH wQ FM rfl (.d (.agg (Campaign.enc n))) rfl wz (dz 0 (.inl rfl) z58 rfl wz (λt=>rF (C0:=([(f,some (.cells 2 [(.vs c 1 0 g.f_can.length),(vI o.2.2)])),(c,some (.cells 1 (aJ 1 e o.1))),(C,gB 3 Share.enc o.2.1)]:Hp)) (T:=(aS 1 eI e o.1)) (X:=([(t,some (.cells 8 [(vS (⟨#[]⟩:ByteArray)),(vS (⟨#[]⟩:ByteArray)),(vI 0),(vI 0),.nil,(vI 0),(vI 0),(vI 0)]))]:Hp)) (aa (vI (A:Int)) (gp 0 il ft 3 wQ rfl rfl (Campaign.v n) rfl wz (af (ai (aa (vL Spot.enc w) (bQ Lr rfl wz (aa (vI 0) (af ?_)))))))))))))))
     obtain ⟨ć,Æ,Y⟩:=bind_some Y
     obtain ⟨Û,Æ⟩:=bn Æ
     refine fV (σ:=(List (List Int))×(List Share)×Int) (N:=Nm) (λp=>(λ(b:(List (List Int))×(List Share)×Int) (m:Nm)=>([(0,(vL Spot.enc w)),(7,(.ref f 0 0)),(8,(gV m 3 b.2.1)),(32,(vL Campaign.enc y)),(33,(vI (y.length:Int))),(34,(vI (A:Int)))]:SL_)) p.1 p.2) (λp=>(λ(b:(List (List Int))×(List Share)×Int) (m:Nm)=>(([(f,some (.cells 2 [(.vs c 1 0 g.f_can.length),(vI b.2.2)])),(c,some (.cells 1 (aJ 1 e b.1))),(m,gB 3 Share.enc b.2.1),(t,some (.cells 8 (Campaign.v n)))]:Hp)++(aS 1 eI e b.1))) p.1 p.2) (λ(B:Nat)=>(λp=>(λ(b:(List (List Int))×(List Share)×Int) (m:Nm)=>([(0,(vL Spot.enc w)),(7,(.ref f 0 0)),(8,(gV m 3 b.2.1)),(9,(vI (A:Int))),(10,(.ref t 0 0)),(32,(vL Campaign.enc y)),(33,(vI (y.length:Int))),(34,(vI (A:Int))),(39,(vL Spot.enc w)),(40,(vI (w.length:Int))),(41,(vI (B:Int)))]:SL_)) p.1 p.2)) (λk x s=>jN n g A k x s) ć w ((o.1,o.2.1,o.2.2),C) Æ rfl (cz (C1:=([(f,some (.cells 2 [(.vs c 1 0 g.f_can.length),(vI o.2.2)])),(c,some (.cells 1 (aJ 1 e o.1))),(C,gB 3 Share.enc o.2.1),(t,some (.cells 8 (Campaign.v n)))]:Hp)) (T:=(aS 1 eI e o.1)) [0,1,2,3] (by decide) rfl rfl) ?_ ?_
     ·rintro ⟨B,Z,b,m⟩ ⟨L,G⟩
      dsimp only at L G
      cases Z with
      | nil =>
       obtain rfl:=ae L
       refine ai (aa (vB (decide ((B:Int)<(w.length:Int)))) (af ?_))
       refine ak (ay rfl (drop_nil G) (aY ?_))
       exact aW (b,m) rfl rfl (cz (C1:=([(f,some (.cells 2 [(.vs c 1 0 g.f_can.length),(vI b.2.2)])),(c,some (.cells 1 (aJ 1 e b.1))),(m,gB 3 Share.enc b.2.1),(t,some (.cells 8 (Campaign.v n)))]:Hp)) (T:=(aS 1 eI e b.1)) [0,1,2,3] (by decide) rfl rfl)
      | cons u Z =>
       obtain ⟨á,a,L⟩:=bind_some L
       refine ai (aa (vB (decide ((B:Int)<(w.length:Int)))) (af ?_))
       refine ak (aA rfl (bE G) (ax ?_))
       unfold jN at a
       refine ak (aQ (ai (aa (vI (B:Int)) (dI LK rfl rfl (bN G) rfl wz (bH zA JJ rfl (.d (.agg (Spot.enc u))) rfl wz (dz 0 (.inl rfl) z40 rfl wz (λz=>rF (C0:=([(f,some (.cells 2 [(.vs c 1 0 g.f_can.length),(vI b.2.2)])),(c,some (.cells 1 (aJ 1 e b.1))),(m,gB 3 Share.enc b.2.1),(t,some (.cells 8 (Campaign.v n)))]:Hp)) (T:=(aS 1 eI e b.1)) (X:=([(z,some (.cells 5 [(vS (⟨#[]⟩:ByteArray)),(vI 0),(vI 0),(vI 0),.nil]))]:Hp)) (aa (vI (B:Int)) (gp 0 il ft 4 zA rfl rfl (Spot.v u) rfl wz (af (ak (ai (aH 0 3 il ft wQ FM rfl rfl (.d (.agg (Campaign.enc n))) rfl wz (aH 0 4 il ft zA JJ rfl rfl (.d (.agg (Spot.enc u))) rfl wz ?_))))))))))))))
       obtain ⟨ĉ,ñ,a⟩:=bind_some a
       refine aG (uI ñ) rfl hb18 rfl rfl rfl rfl wz (aa (vB (!ĉ)) (af ?_))
       rcases aj a with⟨Â,a⟩|⟨Â,a⟩
       ·refine aA rfl Â (aY (au (dS (bC G Û) wz rfl (aa (vI ((B+1:Nat):Int)) (af ?_)))))
        obtain rfl:=ae a
        exact aZ (B+1,Z,(b.1,b.2.1,b.2.2),m) ⟨L,aV G⟩ (ls_ _) rfl (cz (C1:=([(f,some (.cells 2 [(.vs c 1 0 g.f_can.length),(vI b.2.2)])),(c,some (.cells 1 (aJ 1 e b.1))),(m,gB 3 Share.enc b.2.1),(t,some (.cells 8 (Campaign.v n))),(z,some (.cells 5 (Spot.v u)))]:Hp)) (T:=(aS 1 eI e b.1)) [0,1,2,3] (by decide) rfl rfl)
       ·refine ay rfl Â (ax (ai (aa (.ref f 0 0) (aa (vI (A:Int)) ?_))))
        obtain ⟨_,é,a⟩:=bind_some a
        obtain ⟨_,ã,a⟩:=bind_some a
        obtain ⟨j,ò,a⟩:=bind_some a
        refine lu (H0:=(([(f,some (.cells 2 [(.vs c 1 0 g.f_can.length),(vI b.2.2)])),(c,some (.cells 1 (aJ 1 e b.1))),(m,gB 3 Share.enc b.2.1),(t,some (.cells 8 (Campaign.v n))),(z,some (.cells 5 (Spot.v u)))]:Hp)++(aS 1 eI e b.1))) rfl (sP 0 0 1 il ft (ny ò) rfl hb19 rfl rfl (by decide) (nR ã) (uo é) rfl (by kernel_rfl) (λ_=>by kernel_rfl) (by kernel_rfl) (by kernel_rfl) wz (aa (.ref f 0 0) (aa (vI (B:Int)) ?_)))
        obtain ⟨_,ê,a⟩:=bind_some a
        obtain ⟨_,ä,a⟩:=bind_some a
        obtain ⟨l,ó,a⟩:=bind_some a
        refine lu (H0:=(([(f,some (.cells 2 [(.vs c 1 0 g.f_can.length),(vI b.2.2)])),(c,some (.cells 1 (aJ 1 e b.1))),(m,gB 3 Share.enc b.2.1),(t,some (.cells 8 (Campaign.v n))),(z,some (.cells 5 (Spot.v u)))]:Hp)++(aS 1 eI e b.1))) rfl (sP 0 0 1 il ft (nA ó) rfl hb20 rfl rfl (by decide) (nR ä) (uo ê) rfl (by kernel_rfl) (λ_=>by kernel_rfl) (by kernel_rfl) (by kernel_rfl) wz (aa (vI j) (aa (vI l) (af (ak (bv (aa (.ref f 0 0) (aa (.ref f 0 0) (aI nk rfl 0 rfl wz (aH 3 0 (.inr (by kernel_rfl)) (λ_ _ ag=>trivial) yO yK rfl rfl (.vs c 1 0 g.f_can.length) rfl wz (aa (vI l) ?_)))))))))))
        obtain ⟨_,Ò,a⟩:=bind_some a
        refine j6 zY rfl rfl (lT Ò) (je Ò) wz ?_
        obtain ⟨Đ,ô,a⟩:=bind_some a
        refine pu 6 1 (.inr (by kernel_rfl)) (λ_ _ ag=>⟨.inl ⟨rfl,rfl⟩,trivial⟩) uw wo rfl rfl ô wz (aa (vI j) ?_)
        obtain ⟨_,Ó,a⟩:=bind_some a
        refine jv ic rfl rfl (fF Ó) (dC Ó) wz ?_
        obtain ⟨đ,õ,a⟩:=bind_some a
        obtain ⟨E,ā,a⟩:=bind_some a
        refine lu (H0:=(([(f,some (.cells 2 [(.vs c 1 0 g.f_can.length),(vI b.2.2)])),(c,some (.cells 1 (aJ 1 e b.1))),(m,gB 3 Share.enc b.2.1),(t,some (.cells 8 (Campaign.v n))),(z,some (.cells 5 (Spot.v u)))]:Hp)++(aS 1 eI e b.1))) rfl (Hq 9 (.inr (by kernel_rfl)) (λ_ _ ag=>⟨.inl ⟨rfl,rfl⟩,⟨.inl ⟨rfl,rfl⟩,trivial⟩⟩) sz3 ag3 rfl õ ā (vI E) rfl wz (aa (.ref f 0 0) (aa (.ref f 0 0) (aI nk rfl 0 rfl wz (aH 13 0 (.inr (by kernel_rfl)) (λ_ _ ag=>⟨.inl ⟨rfl,rfl⟩,⟨.inl ⟨rfl,rfl⟩,⟨.inl ⟨rfl,rfl⟩,trivial⟩⟩⟩) yO yK rfl rfl (.vs c 1 0 g.f_can.length) rfl wz (aa (vI j) ?_))))))
        obtain ⟨_,Ô,a⟩:=bind_some a
        refine j6 zY rfl rfl (lT Ô) (je Ô) wz ?_
        obtain ⟨Ē,ö,a⟩:=bind_some a
        refine pu 16 1 (.inr (by kernel_rfl)) (λ_ _ ag=>⟨.inl ⟨rfl,rfl⟩,⟨.inl ⟨rfl,rfl⟩,⟨.inl ⟨rfl,rfl⟩,⟨.inl ⟨rfl,rfl⟩,trivial⟩⟩⟩⟩) uw wo rfl rfl ö wz (aa (vI l) ?_)
        obtain ⟨_,Õ,a⟩:=bind_some a
        refine jv ic rfl rfl (fF Õ) (dC Õ) wz ?_
        obtain ⟨ē,ù,a⟩:=bind_some a
        obtain ⟨W,Ă,a⟩:=bind_some a
        refine lu (H0:=(([(f,some (.cells 2 [(.vs c 1 0 g.f_can.length),(vI b.2.2)])),(c,some (.cells 1 (aJ 1 e b.1))),(m,gB 3 Share.enc b.2.1),(t,some (.cells 8 (Campaign.v n))),(z,some (.cells 5 (Spot.v u)))]:Hp)++(aS 1 eI e b.1))) rfl (Hq 19 (.inr (by kernel_rfl)) (λ_ _ ag=>⟨.inl ⟨rfl,rfl⟩,⟨.inl ⟨rfl,rfl⟩,⟨.inl ⟨rfl,rfl⟩,⟨.inl ⟨rfl,rfl⟩,⟨.inl ⟨rfl,rfl⟩,trivial⟩⟩⟩⟩⟩) sz3 ag3 rfl ù Ă (vI W) rfl wz (aa (vI E) (aa (vI W) (af (aR (H0:=(([(f,some (.cells 2 [(.vs c 1 0 g.f_can.length),(vI b.2.2)])),(c,some (.cells 1 (aJ 1 e b.1))),(m,gB 3 Share.enc b.2.1),(t,some (.cells 8 (Campaign.v n))),(z,some (.cells 5 (Spot.v u)))]:Hp)++(aS 1 eI e b.1))) ([(0,(vL Spot.enc w)),(7,(.ref f 0 0)),(8,(gV m 3 b.2.1)),(9,(vI (A:Int))),(10,(.ref t 0 0)),(12,(.ref z 0 0)),(13,(vI j)),(14,(vI l)),(15,(vI E)),(16,(vI W)),(32,(vL Campaign.enc y)),(33,(vI (y.length:Int))),(34,(vI (A:Int))),(39,(vL Spot.enc w)),(40,(vI (w.length:Int))),(41,(vI (B:Int)))]:SL_) (by kernel_rfl) (cz (C1:=([(f,some (.cells 2 [(.vs c 1 0 g.f_can.length),(vI b.2.2)])),(c,some (.cells 1 (aJ 1 e b.1))),(m,gB 3 Share.enc b.2.1),(t,some (.cells 8 (Campaign.v n))),(z,some (.cells 5 (Spot.v u)))]:Hp)) (T:=(aS 1 eI e b.1)) [0,1,2,3,4] (by decide) (by kernel_rfl) (by kernel_rfl)) (ak (bv (aa (.ref f 0 0) (aa (.ref f 0 0) (aI nk rfl 0 rfl wz (aH 3 0 (.inr (by kernel_rfl)) (λ_ _ ag=>trivial) yO yK rfl rfl (.vs c 1 0 g.f_can.length) rfl wz (aa (vI j) ?_))))))))))))
        obtain ⟨_,Ö,a⟩:=bind_some a
        refine j6 zY rfl rfl (lT Ö) (je Ö) wz ?_
        obtain ⟨Ĕ,ú,a⟩:=bind_some a
        refine pu 6 1 (.inr (by kernel_rfl)) (λ_ _ ag=>⟨.inl ⟨rfl,rfl⟩,trivial⟩) uw wo rfl rfl ú wz (aa (vI l) (aa (.ref f 0 0) (aa (.ref f 0 0) (aI nk rfl 0 rfl wz (aH 11 0 (.inr (by kernel_rfl)) (λ_ _ ag=>⟨.inl ⟨rfl,rfl⟩,⟨.inl ⟨rfl,rfl⟩,trivial⟩⟩) yO yK rfl rfl (.vs c 1 0 g.f_can.length) rfl wz (aa (vI l) ?_))))))
        obtain ⟨_,Ø,a⟩:=bind_some a
        refine j6 zY rfl rfl (lT Ø) (je Ø) wz ?_
        obtain ⟨ĕ,û,a⟩:=bind_some a
        refine pu 14 1 (.inr (by kernel_rfl)) (λ_ _ ag=>⟨.inl ⟨rfl,rfl⟩,⟨.inl ⟨rfl,rfl⟩,⟨.inl ⟨rfl,rfl⟩,trivial⟩⟩⟩) uw wo rfl rfl û wz (aa (vI j) ?_)
        obtain ⟨_,Ù,a⟩:=bind_some a
        refine jv ic rfl rfl (fF Ù) (dC Ù) wz ?_
        obtain ⟨O,Þ,a⟩:=bind_some a
        obtain ⟨Č,ă,a⟩:=bind_some a
        refine lu (H0:=(([(f,some (.cells 2 [(.vs c 1 0 g.f_can.length),(vI b.2.2)])),(c,some (.cells 1 (aJ 1 e b.1))),(m,gB 3 Share.enc b.2.1),(t,some (.cells 8 (Campaign.v n))),(z,some (.cells 5 (Spot.v u)))]:Hp)++(aS 1 eI e b.1))) rfl (AC 17 (.inr (by kernel_rfl)) (λ_ _ ag=>⟨.inr (.inr (by kernel_rfl)),⟨.inr (.inr (by kernel_rfl)),⟨.inr (.inr (by kernel_rfl)),⟨.inr (.inr (by kernel_rfl)),trivial⟩⟩⟩⟩) sz3 rfl Þ ă 0 rfl wz (xC (b':=some (.cells 1 (aJ 1 e (b.1.set (0+(j).toNat) (O.set (0+(l).toNat) 0))))) 1 rfl (rJ Þ) ?_))
        obtain ⟨_,Ú,a⟩:=bind_some a
        refine jv ic rfl rfl (fF Ú) (dC Ú) wz ?_
        obtain ⟨Ë,ß,a⟩:=bind_some a
        obtain ⟨č,Ą,a⟩:=bind_some a
        refine lu (H0:=(([(f,some (.cells 2 [(.vs c 1 0 g.f_can.length),(vI b.2.2)])),(c,some (.cells 1 (aJ 1 e (b.1.set (0+(j).toNat) (O.set (0+(l).toNat) 0))))),(m,gB 3 Share.enc b.2.1),(t,some (.cells 8 (Campaign.v n))),(z,some (.cells 5 (Spot.v u)))]:Hp)++(aS 1 eI e (b.1.set (0+(j).toNat) (O.set (0+(l).toNat) 0))))) rfl (AC 19 (.inr (by kernel_rfl)) (λ_ _ ag=>⟨.inr (.inr (by kernel_rfl)),⟨.inr (.inr (by kernel_rfl)),⟨.inr (.inr (by kernel_rfl)),⟨.inr (.inr (by kernel_rfl)),⟨.inr (.inr (by kernel_rfl)),trivial⟩⟩⟩⟩⟩) sz3 rfl ß Ą 0 rfl wz (xC (b':=some (.cells 1 (aJ 1 e ((b.1.set (0+(j).toNat) (O.set (0+(l).toNat) 0)).set (0+(l).toNat) (Ë.set (0+(j).toNat) 0))))) 1 rfl (rJ ß) (af (ak (ai (aa (vI E) (aa (.ref f 0 0) (aa (vI l) (aa (vI j) (aa (vI W) ?_))))))))))
        obtain ⟨_,ë,a⟩:=bind_some a
        obtain ⟨_,å,a⟩:=bind_some a
        obtain ⟨h,ü,a⟩:=bind_some a
        obtain ⟨_,þ,a⟩:=bind_some a
        refine lu (H0:=(([(f,some (.cells 2 [(.vs c 1 0 g.f_can.length),(vI b.2.2)])),(c,some (.cells 1 (aJ 1 e ((b.1.set (0+(j).toNat) (O.set (0+(l).toNat) 0)).set (0+(l).toNat) (Ë.set (0+(j).toNat) 0))))),(m,gB 3 Share.enc b.2.1),(t,some (.cells 8 (Campaign.v n))),(z,some (.cells 5 (Spot.v u)))]:Hp)++(aS 1 eI e ((b.1.set (0+(j).toNat) (O.set (0+(l).toNat) 0)).set (0+(l).toNat) (Ë.set (0+(j).toNat) 0))))) rfl (Kz 0 0 1 il ft (qY ü) rfl hb16 rfl rfl (by decide) (nR å) (uo ë) (lH þ) rfl rfl (by kernel_rfl) (λ_=>by kernel_rfl) (by kernel_rfl) (by kernel_rfl) wz (aa (vI (w64 (E+h.1))) (aa (vI (w64 (E+h.1))) (af (ai (aa (vI (w64 (E+h.1))) (aa (vB (decide ((w64 (E+h.1))>0))) (af (aR (H0:=(([(f,some (.cells 2 [(.vs c 1 0 g.f_can.length),(vI h.2.f_camps)])),(c,some (.cells 1 (aJ 1 e h.2.f_can))),(m,gB 3 Share.enc b.2.1),(t,some (.cells 8 (Campaign.v n))),(z,some (.cells 5 (Spot.v u)))]:Hp)++(aS 1 eI e h.2.f_can))) ([(0,(vL Spot.enc w)),(7,(.ref f 0 0)),(8,(gV m 3 b.2.1)),(9,(vI (A:Int))),(10,(.ref t 0 0)),(12,(.ref z 0 0)),(13,(vI j)),(14,(vI l)),(17,(vI (w64 (E+h.1)))),(32,(vL Campaign.enc y)),(33,(vI (y.length:Int))),(34,(vI (A:Int))),(39,(vL Spot.enc w)),(40,(vI (w.length:Int))),(41,(vI (B:Int))),(102,(vB (decide ((w64 (E+h.1))>0))))]:SL_) (by kernel_rfl) (cz (C1:=([(f,some (.cells 2 [(.vs c 1 0 g.f_can.length),(vI h.2.f_camps)])),(c,some (.cells 1 (aJ 1 e h.2.f_can))),(m,gB 3 Share.enc b.2.1),(t,some (.cells 8 (Campaign.v n))),(z,some (.cells 5 (Spot.v u)))]:Hp)) (T:=(aS 1 eI e h.2.f_can)) [0,1,2,3,4] (by decide) (by kernel_rfl) (by kernel_rfl)) ?_)))))))))
        obtain ⟨P,I,a⟩:=bind_some a
        refine kr (β:=Nm) (λ(H:Nm)=>([(0,(vL Spot.enc w)),(7,(.ref f 0 0)),(8,(gV H 3 P)),(9,(vI (A:Int))),(10,(.ref t 0 0)),(13,(vI j)),(14,(vI l)),(32,(vL Campaign.enc y)),(33,(vI (y.length:Int))),(34,(vI (A:Int))),(39,(vL Spot.enc w)),(40,(vI (w.length:Int))),(41,(vI (B:Int)))]:SL_)) (λ(H:Nm)=>(([(f,some (.cells 2 [(.vs c 1 0 g.f_can.length),(vI h.2.f_camps)])),(c,some (.cells 1 (aJ 1 e h.2.f_can))),(H,gB 3 Share.enc P),(t,some (.cells 8 (Campaign.v n))),(z,some (.cells 5 (Spot.v u)))]:Hp)++(aS 1 eI e h.2.f_can))) (λ_=>True) ?_ ?_
        ·rcases aj I with⟨Ä,I⟩|⟨Ä,I⟩
         ·refine aA rfl Ä (au (aa (gV m 3 b.2.1) (aI Bt rfl 0 rfl wz (aH 0 3 il ft sz9 ag9 rfl rfl (vS n.Key) rfl wz (aI EB rfl 0 rfl wz (aH 0 4 il ft sz9 ag9 rfl rfl (vS u.Key) rfl wz (aa (vI (w64 (E+h.1))) (aL (.d (.agg (Share.enc (⟨n.Key,u.Key,(w64 (E+h.1))⟩:Share)))) wz (by kernel_rfl) (gL (([(⟨n.Key,u.Key,(w64 (E+h.1))⟩:Share)]:List Share).map Share.enc) es30 ez30 rfl rfl rfl rfl rfl wz ?_)))))))))
          obtain ⟨Í,ą,I⟩:=bind_some I
          refine jr 0 il ft (i:=2) el30 el30 sz42 z42 rfl (by decide) by42 (by decide) (λ_=>rfl) rfl rfl rfl ą wz (λÉ=>aa (gV É 3 Í) (af ?_))
          obtain rfl:=ae I
          exact aW É trivial rfl (cz (C1:=([(f,some (.cells 2 [(.vs c 1 0 g.f_can.length),(vI h.2.f_camps)])),(c,some (.cells 1 (aJ 1 e h.2.f_can))),(É,gB 3 Share.enc Í),(t,some (.cells 8 (Campaign.v n))),(z,some (.cells 5 (Spot.v u)))]:Hp)) (T:=(aS 1 eI e h.2.f_can)) [0,1,2,3,4] (by decide) rfl rfl)
         ·refine ay rfl Ä (ax ?_)
          obtain rfl:=ae I
          exact aW m trivial rfl (cz (C1:=([(f,some (.cells 2 [(.vs c 1 0 g.f_can.length),(vI h.2.f_camps)])),(c,some (.cells 1 (aJ 1 e h.2.f_can))),(m,gB 3 Share.enc b.2.1),(t,some (.cells 8 (Campaign.v n))),(z,some (.cells 5 (Spot.v u)))]:Hp)) (T:=(aS 1 eI e h.2.f_can)) [0,1,2,3,4] (by decide) rfl rfl)
        ·rintro H _ à Ì R U
         refine aR _ R U (bv (aa (.ref f 0 0) (aa (.ref f 0 0) (aI nk rfl 0 rfl wz (aH 3 0 (.inr (by kernel_rfl)) (λ_ _ ag=>trivial) yO yK rfl rfl (.vs c 1 0 g.f_can.length) rfl wz (aa (vI j) ?_))))))
         obtain ⟨_,Î,a⟩:=bind_some a
         refine j6 zY rfl rfl (lT Î) (je Î) wz ?_
         obtain ⟨Ď,ì,a⟩:=bind_some a
         refine pu 6 1 (.inr (by kernel_rfl)) (λ_ _ ag=>⟨.inl ⟨rfl,rfl⟩,trivial⟩) uw wo rfl rfl ì wz (aa (vI l) (aa (.ref f 0 0) (aa (.ref f 0 0) (aI nk rfl 0 rfl wz (aH 11 0 (.inr (by kernel_rfl)) (λ_ _ ag=>⟨.inl ⟨rfl,rfl⟩,⟨.inl ⟨rfl,rfl⟩,trivial⟩⟩) yO yK rfl rfl (.vs c 1 0 g.f_can.length) rfl wz (aa (vI l) ?_))))))
         obtain ⟨_,Ï,a⟩:=bind_some a
         refine j6 zY rfl rfl (lT Ï) (je Ï) wz ?_
         obtain ⟨ď,í,a⟩:=bind_some a
         refine pu 14 1 (.inr (by kernel_rfl)) (λ_ _ ag=>⟨.inl ⟨rfl,rfl⟩,⟨.inl ⟨rfl,rfl⟩,⟨.inl ⟨rfl,rfl⟩,trivial⟩⟩⟩) uw wo rfl rfl í wz (aa (vI j) ?_)
         obtain ⟨_,Ð,a⟩:=bind_some a
         refine jv ic rfl rfl (fF Ð) (dC Ð) wz ?_
         obtain ⟨J,Ü,a⟩:=bind_some a
         obtain ⟨Ċ,ÿ,a⟩:=bind_some a
         refine lu (H0:=(([(f,some (.cells 2 [(.vs c 1 0 g.f_can.length),(vI h.2.f_camps)])),(c,some (.cells 1 (aJ 1 e h.2.f_can))),(H,gB 3 Share.enc P),(t,some (.cells 8 (Campaign.v n))),(z,some (.cells 5 (Spot.v u)))]:Hp)++(aS 1 eI e h.2.f_can))) rfl (AC 17 (.inr (by kernel_rfl)) (λ_ _ ag=>⟨.inr (.inr (by kernel_rfl)),⟨.inr (.inr (by kernel_rfl)),⟨.inr (.inr (by kernel_rfl)),⟨.inr (.inr (by kernel_rfl)),trivial⟩⟩⟩⟩) sz3 rfl Ü ÿ 0 rfl wz (xC (b':=some (.cells 1 (aJ 1 e (h.2.f_can.set (0+(j).toNat) (J.set (0+(l).toNat) 0))))) 1 rfl (rJ Ü) ?_))
         obtain ⟨_,Ñ,a⟩:=bind_some a
         refine jv ic rfl rfl (fF Ñ) (dC Ñ) wz ?_
         obtain ⟨À,Ý,a⟩:=bind_some a
         obtain ⟨ċ,Ā,a⟩:=bind_some a
         refine lu (H0:=(([(f,some (.cells 2 [(.vs c 1 0 g.f_can.length),(vI h.2.f_camps)])),(c,some (.cells 1 (aJ 1 e (h.2.f_can.set (0+(j).toNat) (J.set (0+(l).toNat) 0))))),(H,gB 3 Share.enc P),(t,some (.cells 8 (Campaign.v n))),(z,some (.cells 5 (Spot.v u)))]:Hp)++(aS 1 eI e (h.2.f_can.set (0+(j).toNat) (J.set (0+(l).toNat) 0))))) rfl (AC 19 (.inr (by kernel_rfl)) (λ_ _ ag=>⟨.inr (.inr (by kernel_rfl)),⟨.inr (.inr (by kernel_rfl)),⟨.inr (.inr (by kernel_rfl)),⟨.inr (.inr (by kernel_rfl)),⟨.inr (.inr (by kernel_rfl)),trivial⟩⟩⟩⟩⟩) sz3 rfl Ý Ā 0 rfl wz (xC (b':=some (.cells 1 (aJ 1 e ((h.2.f_can.set (0+(j).toNat) (J.set (0+(l).toNat) 0)).set (0+(l).toNat) (À.set (0+(j).toNat) 0))))) 1 rfl (rJ Ý) (af (au (dS (bC G Û) wz rfl (aa (vI ((B+1:Nat):Int)) (af ?_)))))))
         obtain rfl:=ae a
         exact aZ (B+1,Z,(((h.2.f_can.set (0+(j).toNat) (J.set (0+(l).toNat) 0)).set (0+(l).toNat) (À.set (0+(j).toNat) 0)),P,h.2.f_camps),H) ⟨L,aV G⟩ (ls_ _) rfl (cz (C1:=([(f,some (.cells 2 [(.vs c 1 0 g.f_can.length),(vI h.2.f_camps)])),(c,some (.cells 1 (aJ 1 e ((h.2.f_can.set (0+(j).toNat) (J.set (0+(l).toNat) 0)).set (0+(l).toNat) (À.set (0+(j).toNat) 0))))),(H,gB 3 Share.enc P),(t,some (.cells 8 (Campaign.v n))),(z,some (.cells 5 (Spot.v u)))]:Hp)) (T:=(aS 1 eI e ((h.2.f_can.set (0+(j).toNat) (J.set (0+(l).toNat) 0)).set (0+(l).toNat) (À.set (0+(j).toNat) 0)))) [0,1,2,3] (by decide) rfl rfl)
     ·rintro ⟨b,m⟩ Ç à Ì R U
      subst Ç
      refine aR _ R U (au (dS (bC K è) wz rfl (aa (vI ((A+1:Nat):Int)) (af ?_))))
      obtain rfl:=ae Y
      exact aZ (A+1,È,(b.1,b.2.1,b.2.2),m) ⟨Q,aV K⟩ (ls_ _) rfl (cz (C1:=([(f,some (.cells 2 [(.vs c 1 0 g.f_can.length),(vI b.2.2)])),(c,some (.cells 1 (aJ 1 e b.1))),(m,gB 3 Share.enc b.2.1),(t,some (.cells 8 (Campaign.v n)))]:Hp)) (T:=(aS 1 eI e b.1)) [0,1,2] (by decide) rfl rfl)
   ·rintro ⟨o,C⟩ Ç à Ì R U
    subst Ç
    refine aR _ R U (ai (aa (gV C 3 o.2.1) (aa (gV C 3 o.2.1) (aa (vI 0) (af (fQ 2 rfl (dx 4 2 rfl rfl (dx 8 2 rfl rfl (dx 132 2 rfl rfl ?_)))))))))
    obtain rfl:=ae q
    exact aC (aO [(vL Share.enc o.2.1),(vI 0)] ⟨rfl,⟨rfl,trivial⟩⟩)
theorem yM {b:Rect} {r:Int} (a:pR b=some r) :
  FnM Tryz.prog 69 [(.d (.agg (Rect.enc b)))] [] (vI r) []:=by
 refine FnM.of_wH ⟨Tryz.prog,25,[],[]⟩ rfl Tryz.func69 rfl rfl (lb_ rfl) (by kernel_rfl) ?_
 unfold pR at a
 refine ai (jU 0 (.inl rfl) (Rect.v b) rfl rfl wz (λl=>aa (vI 0) (af (ak (ak ?_)))))
 obtain ⟨x,e,a⟩:=bind_some a
 refine aU [(1,(.ref l 0 0)),(10,(vB x))] [(l,some (.cells 4 (Rect.v b)))] ?_ ?_
 ·refine au (aI Jg rfl 0 rfl wz (aH 0 0 il ft sz3 ag3 rfl rfl (vI b.X) rfl wz ?_))
  obtain ⟨z,p,e⟩:=bind_some e
  refine aG (bA p) rfl rR rfl rfl rfl rfl wz ?_
  rcases aj e with⟨i,e⟩|⟨i,e⟩
  ·refine aB rfl i wz (ah (ah (ah (aa (vB true) (af ?_)))))
   obtain rfl:=ae e
   exact cu
  ·refine aB rfl i wz (aI Cg rfl 1 rfl wa (aH 0 0 il ft sz3 ag3 rfl rfl (vI b.Y) rfl wa ?_))
   obtain ⟨t,q,e⟩:=bind_some e
   refine aG (bA q) rfl rR rfl rfl rfl rfl wa (aa (vB t) (af ?_))
   obtain rfl:=ae e
   exact cu
 ·rintro ⟨⟩ _ u m j k
  refine aR _ j k ?_
  rcases aj a with⟨f,a⟩|⟨f,a⟩
  ·refine aA rfl f (ai (aa (vI 1) (af ?_)))
   obtain rfl:=ae a
   exact aC (aO [(vI 1)] ⟨rfl,trivial⟩)
  ·refine ay rfl f (ax (ak (ak ?_)))
   obtain ⟨w,c,a⟩:=bind_some a
   refine aU [(24,(vB w))] [(l,some (.cells 4 (Rect.v b)))] ?_ ?_
   ·refine au (aI MG rfl 2 rfl wz (aH 0 0 il ft sz3 ag3 rfl rfl (vI b.W) rfl wz (aI Jg rfl 0 rfl wz (aH 0 0 il ft sz3 ag3 rfl rfl (vI b.X) rfl wz (aa (vI (w64 (100000-b.X))) ?_)))))
    obtain ⟨y,n,c⟩:=bind_some c
    refine aG (bA n) rfl rR rfl rfl rfl rfl wz ?_
    rcases aj c with⟨g,c⟩|⟨g,c⟩
    ·refine aB rfl g wz (ah (ah (ah (ah (ah (ah (aa (vB true) (af ?_))))))))
     obtain rfl:=ae c
     exact cu
    ·refine aB rfl g wz (aI Iq rfl 3 rfl wa (aH 0 0 il ft sz3 ag3 rfl rfl (vI b.H) rfl wa (aI Cg rfl 1 rfl wa (aH 0 0 il ft sz3 ag3 rfl rfl (vI b.Y) rfl wa (aL (vI (w64 (100000-b.Y))) wa rfl ?_)))))
     obtain ⟨s,o,c⟩:=bind_some c
     refine aG (bA o) rfl rR rfl rfl rfl rfl wa (aa (vB s) (af ?_))
     obtain rfl:=ae c
     exact cu
   ·rintro ⟨⟩ _ u m j k
    refine aR _ j k ?_
    rcases aj a with⟨h,a⟩|⟨h,a⟩
    ·refine aA rfl h (ai (aa (vI 1) (af ?_)))
     obtain rfl:=ae a
     exact aC (aO [(vI 1)] ⟨rfl,trivial⟩)
    ·refine ay rfl h (ax (ai (aa (vI 0) (af ?_))))
     obtain rfl:=ae a
     exact aC (aO [(vI 0)] ⟨rfl,trivial⟩)
theorem xK {a:(List Rect)} {r:Int} (b:lU a=some r) :
  FnM Tryz.prog 41 [(vL Rect.enc a)] [] (vI r) []:=by
 refine FnM.of_wH ⟨Tryz.prog,21,[],[]⟩ rfl Tryz.func41 rfl rfl (lb_ rfl) (by kernel_rfl) ?_
 unfold lU at b
 refine ai (aa (vI 0) (af (ak (ai (aa (vL Rect.enc a) (bQ IM rfl wz (aa (vB (decide ((a.length:Int)>2000))) (af ?_))))))))
 rcases aj b with⟨l,b⟩|⟨l,b⟩
 ·refine aA rfl l (ai (aa (vI 2) (af ?_)))
  obtain rfl:=ae b
  exact aC (aO [(vI 2)] ⟨rfl,trivial⟩)
 ·refine ay rfl l (ax (ak (ai (aa (vL Rect.enc a) (bQ IM rfl wz (aa (vI 0) (af ?_)))))))
  obtain ⟨y,m,b⟩:=bind_some b
  obtain ⟨p,m⟩:=bn m
  refine dB (λ(i:Unit)=>[]) (λ(i:Unit)=>[]) (λ(g:Nat)=>(λ(i:Unit)=>[(9,(vL Rect.enc a)),(10,(vI (a.length:Int))),(11,(vI (g:Int)))])) (λk x s=>mq k x s) y a () m rfl (aK rfl) ?_ ?_
  ·rintro ⟨g,n,i⟩ ⟨f,e⟩
   dsimp only at f e
   cases n with
   | nil =>
    obtain rfl:=ae f
    refine ai (aa (vB (decide ((g:Int)<(a.length:Int)))) (af ?_))
    refine ak (ay rfl (drop_nil e) (aY ?_))
    exact aW (i) rfl rfl (aK rfl)
   | cons o n =>
    obtain ⟨A,c,f⟩:=bind_some f
    refine ai (aa (vB (decide ((g:Int)<(a.length:Int)))) (af ?_))
    refine ak (aA rfl (bE e) (ax ?_))
    unfold mq at c
    refine ak (aQ (ai (dI Pt rfl rfl (bN e) rfl wz (bH BK QA rfl (.d (.agg (Rect.enc o))) rfl wz (dz 0 (.inl rfl) z76 rfl wz (λB=>gp 0 il ft 0 BK rfl rfl (Rect.v o) rfl wz (af (ai (aH 0 0 il ft BK QA rfl rfl (.d (.agg (Rect.enc o))) rfl wz ?_)))))))))
    obtain ⟨h,w,c⟩:=bind_some c
    refine aG (yM w) rfl hb69 rfl rfl rfl rfl wz (aa (vI h) (af (ai (aa (vI h) (aa (vB (h != 0)) (af ?_))))))
    rcases aj c with⟨j,c⟩|⟨j,c⟩
    ·refine aA rfl j (ai (aa (vI h) (aa (vI h) (af ?_))))
     obtain rfl:=ae c
     obtain rfl:=ae f
     obtain rfl:=ae b
     exact aC (aO [(vI h)] ⟨rfl,trivial⟩)
    ·refine ay rfl j (ax (au (dS (bC e p) wz rfl (aa (vI ((g+1:Nat):Int)) (af ?_)))))
     obtain rfl:=ae c
     exact aZ (g+1,n,()) ⟨f,aV e⟩ (ls_ _) rfl (aK rfl)
  ·rintro i q C z t u
   subst q
   refine aR _ t u (ai (aa (vI 0) (af ?_)))
   obtain rfl:=ae b
   exact aC (aO [(vI 0)] ⟨rfl,trivial⟩)
theorem nS {b:Int} {r:Bool} (a:ig b=some r) :
  FnM Tryz.prog 99 [.nil,(vI b)] [] (kV r (av 0) 4 ([]:List Rect)) (kO r 4):=by
 refine FnM.of_wH ⟨Tryz.prog,27,[],[]⟩ rfl Tryz.func99 rfl rfl (lb_ rfl) (by kernel_rfl) ?_
 unfold ig at a
 refine ai (aa .nil (af (ak (ai (aa (vI b) (aa (vB (decide (b<0))) (af ?_)))))))
 rcases aj a with⟨c,a⟩|⟨c,a⟩
 ·refine aA rfl c (au ?_)
  cases a
 ·refine ay rfl c (ax (ak (ai (aa (vI b) (aa .nil (QD LD rfl wz (aa .nil (Rh IM rfl wz (aa (vI (w64 (0-0))) (aa (vI (w64 (b-(w64 (0-0))))) (aa (vI (w64 (b-(w64 (0-0))))) (af (ai (aa (vI (w64 (b-(w64 (0-0))))) (aa (vB (decide ((w64 (b-(w64 (0-0))))>0))) (af ?_))))))))))))))))
  rcases aj a with⟨d,a⟩|⟨d,a⟩
  ·refine aA rfl d (au (aa .nil (aa .nil (QD LD rfl wz (aL .nil wz (by kernel_rfl) (aa (vI (w64 (b-(w64 (0-0))))) ?_))))))
   obtain ⟨_,f,a⟩:=bind_some a
   refine h_appz (enc:=Rect.enc) 0 (.inl rfl) LD (by kernel_rfl) BK z76 rfl (by decide) by76 rfl rfl f wz (λe=>aa .nil (Rh IM rfl wz (h_cutm (m:=0) IM BK rfl rfl rfl (Nat.zero_le _) wz (aa (.vs e 4 0 0) (af (ai (aa (.vs e 4 0 0) (aa (.vs e 4 0 0) (af ?_)))))))))
   obtain rfl:=ae a
   exact aC (finK (.inr rfl) 0 rfl rfl)
  ·refine ay rfl d (ax (ai (aa .nil (aa .nil (af ?_)))))
   obtain rfl:=ae a
   exact aC (finK0 (.inr rfl) rfl)
end Go.Proofs.YtkjlhdminmpmkaaGreatDoor.Law

