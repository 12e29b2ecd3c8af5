/-
 The machine computes these plain functions (written by a program of ours).
-/
import Derived.Test.YtnfojnnfidnikaeGreatDoorFacts
import Derived.Test.YtnfojnnfidnikaeGreatDoorDefs
import Derived.Test.YtnfojnnfidnikaeGreatDoorPf3
import Derived.Test.YtnfojnnfidnikaeGreatDoorShelf
open Go Go.Eng Go.Proofs
namespace Go.Proofs.YtnfojnnfidnikaeGreatDoor.Law
set_option maxRecDepth 100000
set_option linter.unusedVariables false
set_option maxHeartbeats 1000000
theorem vY {c:(List Tally)} {r:(List Tally)} (h:iW c=some r) :
  FnM Tryz.prog 12 [(dV (aA 0) 5 c)] (([]:List Box)++gI 5 Tally.enc c) (.tup []) (([]:List Box).map some++gT c (gB 5 Tally.enc r)):=by
 refine FnM.of_wHv ⟨Tryz.prog,14,[],[]⟩ rfl Tryz.func12 rfl rfl (lb_ rfl) (by kernel_rfl) ?_
 unfold iW at h
 refine ai (dA 0 (.inl rfl) z48 rfl wz (λl=>af (ai (aa (dV (aA 0) 5 c) (xR un43 rfl wz (aa (vI 0) (af ?_)))))))
 obtain ⟨u,i,h⟩:=bind_some h
 obtain ⟨n,i⟩:=aY i
 refine bN (λ(a:List Tally)=>[]) (λ(a:List Tally)=>[((aA 0),gB 5 Tally.enc a),(l,some (.cells 5 [(vS (⟨#[]⟩:ByteArray)),(vS (⟨#[]⟩:ByteArray)),(vI 0),(vI 0),(vI 0)]))]) (λ(b:Nat)=>(λ(a:List Tally)=>[(0,(dV (aA 0) 5 a)),(2,(.ref l 0 0)),(5,(vI (c.length:Int))),(6,(vI (b:Int)))])) (λk x s=>jk k x s) u (List.range ((c.length:Int)).toNat) c i rfl (aG rfl) ?_ ?_
 ·rintro ⟨b,j,a⟩ ⟨g,f⟩
  dsimp only at g f
  cases j with
  | nil =>
   obtain rfl:=ae g
   refine ai (aa (vB (decide ((b:Int)<(c.length:Int)))) (af ?_))
   refine ak (ax rfl (lH f) (aU ?_))
   exact aW (a) rfl rfl (aG rfl)
  | cons B j =>
   obtain ⟨w,e,g⟩:=bind_some g
   refine ai (aa (vB (decide ((b:Int)<(c.length:Int)))) (af ?_))
   refine ak (ay rfl (jZ f) (av ?_))
   unfold jk at e
   refine ak (aM (ai (aa (vI (b:Int)) (aa (vI (b:Int)) (af (au (aa (dV (aA 0) 5 a) (aa (vI (b:Int)) (aI 0 1 il ft AP GV rfl rfl (.d (.agg (Tally.enc (⟨(⟨#[]⟩:ByteArray),(⟨#[]⟩:ByteArray),0,0,0⟩:Tally)))) rfl wz ?_)))))))))
   obtain ⟨_,m,e⟩:=bind_some e
   refine je Ms rfl rfl (ik m) (dN m) wz ?_
   obtain ⟨y,t,e⟩:=bind_some e
   refine sw 0 il ft 0 AP rfl rfl t (⟨(⟨#[]⟩:ByteArray),(⟨#[]⟩:ByteArray),0,0,0⟩:Tally) rfl wz (bT (v':=(dV (aA 0) 5 (a.set (0+((b:Int)).toNat) (⟨(⟨#[]⟩:ByteArray),(⟨#[]⟩:ByteArray),0,0,0⟩:Tally)))) 0 rfl (bC (by simp)) (bT (v':=(dV (aA 0) 5 (a.set (0+((b:Int)).toNat) (⟨(⟨#[]⟩:ByteArray),(⟨#[]⟩:ByteArray),0,0,0⟩:Tally)))) 9 rfl (bC (by simp)) (af (au (dH (lF f n) wz rfl (aa (vI ((b+1:Nat):Int)) (af ?_)))))))
   obtain rfl:=ae e
   exact aV (b+1,j,(a.set (0+((b:Int)).toNat) (⟨(⟨#[]⟩:ByteArray),(⟨#[]⟩:ByteArray),0,0,0⟩:Tally))) ⟨g,aX f⟩ (ls_ _) rfl (aG rfl)
 ·rintro a p A v z q
  subst p
  show qI _ _ _ _ _ _ _ _
  obtain rfl:=ae h
  exact qz (H0:=([((aA 0),gB 5 Tally.enc a),(l,some (.cells 5 [(vS (⟨#[]⟩:ByteArray)),(vS (⟨#[]⟩:ByteArray)),(vI 0),(vI 0),(vI 0)]))]:Hp)) (sl':=envS []) q (oq (bs:=([]:List Box)) (os:=([]:List Box)) (xs:=c) (o:=gB 5 Tally.enc a) (.inl rfl) [] trivial rfl rfl rfl rfl rfl (by kernel_rfl) jm rfl)
theorem Ey {E:(List Play)} {O:Int} {r:(List Tally)×Int} (q:rG E O=some r) :
  FnM Tryz.prog 11 [(vL Play.enc E),(vI O)] [] (nN [.int .i64 r.2] (gV (aA 0) 5 r.1)) (([]:List Box).map some++gO 5 Tally.enc r.1):=by
 refine FnM.of_wH ⟨Tryz.prog,81,[],[]⟩ rfl Tryz.func11 rfl rfl (lb_ rfl) (by kernel_rfl) ?_
 unfold rG at q
 refine ai (aa .nil (aa (vI 0) (af (ak (ai (aa (vL Play.enc E) ?_))))))
 obtain ⟨R,Ü,q⟩:=bind_some q
 refine aB (uW Ü) rfl hb38 rfl rfl rfl rfl wz (aa (vI R) (af (ai (aa (vI R) (aa (vB (R != 0)) (af ?_))))))
 rcases aj q with⟨Æ,q⟩|⟨Æ,q⟩
 ·refine ay rfl Æ (ai (aa (vI R) (aa .nil (aa (vI R) (af (iM (λå => ?_)))))))
  obtain rfl:=ae q
  exact aC (yD (outs:=([]:List Box)) [.int .i64 R] (.inr rfl) 0 rfl ⟨rfl,trivial⟩ rfl rfl (by kernel_rfl) (by kernel_rfl))
 ·refine ax rfl Æ (av (ak (ai (aa (vI O) ?_))))
  obtain ⟨æ,Þ,q⟩:=bind_some q
  refine aB (bf Þ) rfl qc rfl rfl rfl rfl wz (af ?_)
  rcases aj q with⟨Ç,q⟩|⟨Ç,q⟩
  ·refine ay rfl Ç (ai (aa .nil (aa (vI 1) (af (iM (λä => ?_))))))
   obtain rfl:=ae q
   exact aC (yD (outs:=([]:List Box)) [.int .i64 1] (.inr rfl) 0 rfl ⟨rfl,trivial⟩ rfl rfl (by kernel_rfl) (by kernel_rfl))
  ·refine ax rfl Ç (av (ai (Qw 0 (.inl rfl) wz (λm=>h_ghost (λhw=>wH_pm (Kt:=Tally) (X:=Tally) (kD:=(λx=>D.agg (Tally.enc x))) (enc:=Tally.enc) (sz:=5) 0 rfl hw) (by kernel_rfl) (aa (.map m) (af (ak (ai (aa (vL Play.enc E) (bA Je rfl wz (aa (vI 0) (af ?_))))))))))))
   obtain ⟨ã,È,q⟩:=bind_some q
   obtain ⟨Ø,È⟩:=aY È
   refine iw (σ:=(List (Tally×Tally))) (N:=(Nat->Nm)) (λp=>(λ(j:(List (Tally×Tally))) (h:(Nat->Nm))=>([(7,(.map m))]:SL_)) p.1 p.2) (λp=>(λ(j:(List (Tally×Tally))) (h:(Nat->Nm))=>(([(m,some (pmB (λx=>D.agg (Tally.enc x)) h j))]:Hp)++(pmT 5 Tally.enc h j))) p.1 p.2) (λ(K:Nat)=>(λp=>(λ(j:(List (Tally×Tally))) (h:(Nat->Nm))=>([(1,(vI O)),(7,(.map m)),(23,(vL Play.enc E)),(24,(vI (E.length:Int))),(25,(vI (K:Int)))]:SL_)) p.1 p.2)) (λk x s=>lG O k x s) ã E (([]:List (Tally×Tally)),ns0) È rfl (Au (C1:=([(m,some (pmB (λx=>D.agg (Tally.enc x)) ns0 ([]:List (Tally×Tally))))]:Hp)) (T:=(pmT 5 Tally.enc ns0 ([]:List (Tally×Tally)))) [0] (by decide) rfl rfl) ?_ ?_
   ·rintro ⟨K,É,j,h⟩ ⟨U,P⟩
    dsimp only at U P
    cases É with
    | nil =>
     obtain rfl:=ae U
     refine ai (aa (vB (decide ((K:Int)<(E.length:Int)))) (af ?_))
     refine ak (ax rfl (drop_nil P) (aU ?_))
     exact aW (j,h) rfl rfl (Au (C1:=([(m,some (pmB (λx=>D.agg (Tally.enc x)) h j))]:Hp)) (T:=(pmT 5 Tally.enc h j)) [0] (by decide) rfl rfl)
    | cons c É =>
     obtain ⟨Ò,u,U⟩:=bind_some U
     refine ai (aa (vB (decide ((K:Int)<(E.length:Int)))) (af ?_))
     refine ak (ay rfl (bu P) (av ?_))
     unfold lG at u
     refine ak (aM (ai (dC IM rfl rfl (bI P) rfl wz (bE zV Jk rfl (.d (.agg (Play.enc c))) rfl wz (dA 0 (.inl rfl) z42 rfl wz (λy=>Ll (C0:=([(m,some (pmB (λx=>D.agg (Tally.enc x)) h j))]:Hp)) (T:=(pmT 5 Tally.enc h j)) (X:=([(y,some (.cells 4 [(vS (⟨#[]⟩:ByteArray)),(vS (⟨#[]⟩:ByteArray)),(vI 0),(vI 0)]))]:Hp)) (jw 0 il ft 1 zV rfl rfl (Play.v c) rfl wz (af (ak (bg (aK Ew rfl 0 rfl wz (aI 1 1 (.inr (by kernel_rfl)) (λ_ _ ag=>trivial) sz9 ag9 rfl rfl (vS c.Player) rfl wz (aK K7 rfl 1 rfl wz (aI 3 1 (.inr (by kernel_rfl)) (λ_ _ ag=>⟨.inl ⟨rfl,rfl⟩,trivial⟩) sz9 ag9 rfl rfl (vS c.Item) rfl wz (aK xP rfl 2 rfl wz (aI 5 1 (.inr (by kernel_rfl)) (λ_ _ ag=>⟨.inl ⟨rfl,rfl⟩,⟨.inl ⟨rfl,rfl⟩,trivial⟩⟩) sz3 ag3 rfl rfl (vI c.At) rfl wz (aa (vI O) ?_)))))))))))))))))
     obtain ⟨l,Û,u⟩:=bind_some u
     refine aB (IX Û) rfl hb40 rfl rfl rfl rfl wz (aL (.d (.agg (Tally.enc (⟨c.Player,c.Item,l,0,0⟩:Tally)))) wz (by kernel_rfl) (dA 9 (.inr (by kernel_rfl)) z48 rfl wz (λz=>Ll (C0:=([(m,some (pmB (λx=>D.agg (Tally.enc x)) h j)),(y,some (.cells 4 (Play.v c)))]:Hp)) (T:=(pmT 5 Tally.enc h j)) (X:=([(z,some (.cells 5 [(vS (⟨#[]⟩:ByteArray)),(vS (⟨#[]⟩:ByteArray)),(vI 0),(vI 0),(vI 0)]))]:Hp)) (jw 10 (.inr (by kernel_rfl)) (λ_ _ ag=>⟨.inr (.inr (by kernel_rfl)),⟨.inr (.inr (by kernel_rfl)),⟨.inr (.inr (by kernel_rfl)),⟨.inr (.inr (by kernel_rfl)),trivial⟩⟩⟩⟩) 2 AP rfl rfl [(vS c.Player),(vS c.Item),(vI l),(vI 0),(vI 0)] rfl wz (af (ak (ai (aa (.map m) (aI 0 2 il ft AP GV rfl rfl (.d (.agg (Tally.enc (⟨c.Player,c.Item,l,0,0⟩:Tally)))) rfl wz (Es (eq:=(λ(a b:Tally)=>(eqS a.Player b.Player&&(eqS a.Item b.Item&&(eqI a.Day b.Day&&(eqI a.Many b.Many&&(eqI a.Long b.Long&&true))))))) (kD:=(λx=>D.agg (Tally.enc x))) (es:=j) (ns:=h) (k:=(⟨c.Player,c.Item,l,0,0⟩:Tally)) 0 0 il ft (λ_ _=>rfl) mt91 (by kernel_rfl) (by kernel_rfl) rfl rfl rfl wz (h_peq pt92 rfl rfl wz (af ?_))))))))))))
     obtain ⟨w,I,u⟩:=bind_some u
     refine lu (β:=(Nat->Nm)) (λ(n:(Nat->Nm))=>([(1,(vI O)),(7,(.map m)),(9,(.ref y 0 0)),(10,(.ref z 0 0)),(23,(vL Play.enc E)),(24,(vI (E.length:Int))),(25,(vI (K:Int)))]:SL_)) (λ(n:(Nat->Nm))=>(([(m,some (pmB (λx=>D.agg (Tally.enc x)) n w)),(y,some (.cells 4 (Play.v c))),(z,some (.cells 5 [(vS c.Player),(vS c.Item),(vI l),(vI 0),(vI 0)]))]:Hp)++(pmT 5 Tally.enc n w))) (λ_=>True) ?_ ?_
     ·rcases aj I with⟨Å,I⟩|⟨Å,I⟩
      ·refine ay rfl Å (ai (aI 0 2 il ft AP GV rfl rfl (.d (.agg (Tally.enc (⟨c.Player,c.Item,l,0,0⟩:Tally)))) rfl wz (dA 0 (.inl rfl) z48 rfl wz (λL=>Ll (C0:=([(m,some (pmB (λx=>D.agg (Tally.enc x)) h j)),(y,some (.cells 4 (Play.v c))),(z,some (.cells 5 [(vS c.Player),(vS c.Item),(vI l),(vI 0),(vI 0)]))]:Hp)) (T:=(pmT 5 Tally.enc h j)) (X:=([(L,some (.cells 5 [(vS (⟨#[]⟩:ByteArray)),(vS (⟨#[]⟩:ByteArray)),(vI 0),(vI 0),(vI 0)]))]:Hp)) (jw 0 il ft 3 AP rfl rfl [(vS c.Player),(vS c.Item),(vI l),(vI 0),(vI 0)] rfl wz (af (au (aa (.map m) (aI 0 2 il ft AP GV rfl rfl (.d (.agg (Tally.enc (⟨c.Player,c.Item,l,0,0⟩:Tally)))) rfl wz ?_)))))))))
       obtain ⟨_,Ù,I⟩:=bind_some I
       refine J3 (H0:=(([(m,some (pmB (λx=>D.agg (Tally.enc x)) h j)),(y,some (.cells 4 (Play.v c))),(z,some (.cells 5 [(vS c.Player),(vS c.Item),(vI l),(vI 0),(vI 0)])),(L,some (.cells 5 [(vS c.Player),(vS c.Item),(vI l),(vI 0),(vI 0)]))]:Hp)++(pmT 5 Tally.enc h j))) rfl (h_pset (eq:=(λ(a b:Tally)=>(eqS a.Player b.Player&&(eqS a.Item b.Item&&(eqI a.Day b.Day&&(eqI a.Many b.Many&&(eqI a.Long b.Long&&true))))))) (C0:=([(m,some (pmB (λx=>D.agg (Tally.enc x)) h j)),(y,some (.cells 4 (Play.v c))),(z,some (.cells 5 [(vS c.Player),(vS c.Item),(vI l),(vI 0),(vI 0)])),(L,some (.cells 5 [(vS c.Player),(vS c.Item),(vI l),(vI 0),(vI 0)]))]:Hp)) (C1:=(([(m,some (pmB (λx=>D.agg (Tally.enc x)) (Dh h j.length L) (j++[((⟨c.Player,c.Item,l,0,0⟩:Tally),(⟨c.Player,c.Item,l,0,0⟩:Tally))]))),(y,some (.cells 4 (Play.v c))),(z,some (.cells 5 [(vS c.Player),(vS c.Item),(vI l),(vI 0),(vI 0)]))]:Hp):Hp)) (k:=(⟨c.Player,c.Item,l,0,0⟩:Tally)) (v:=(⟨c.Player,c.Item,l,0,0⟩:Tally)) 0 3 (λ_ _=>rfl) mt91 (by kernel_rfl) rfl rfl rfl rfl rfl rfl (by decide) (RU Ù) rfl wz (af ?_))
       obtain rfl:=ae I
       exact aW (Dh h j.length L) trivial rfl (Au (C1:=([(m,some (pmB (λx=>D.agg (Tally.enc x)) (Dh h j.length L) (j++[((⟨c.Player,c.Item,l,0,0⟩:Tally),(⟨c.Player,c.Item,l,0,0⟩:Tally))]))),(y,some (.cells 4 (Play.v c))),(z,some (.cells 5 [(vS c.Player),(vS c.Item),(vI l),(vI 0),(vI 0)]))]:Hp)) (T:=(pmT 5 Tally.enc (Dh h j.length L) (j++[((⟨c.Player,c.Item,l,0,0⟩:Tally),(⟨c.Player,c.Item,l,0,0⟩:Tally))]))) [0,1,2] (by decide) rfl rfl)
      ·refine ax rfl Å (av ?_)
       obtain rfl:=ae I
       exact aW h trivial rfl (Au (C1:=([(m,some (pmB (λx=>D.agg (Tally.enc x)) h j)),(y,some (.cells 4 (Play.v c))),(z,some (.cells 5 [(vS c.Player),(vS c.Item),(vI l),(vI 0),(vI 0)]))]:Hp)) (T:=(pmT 5 Tally.enc h j)) [0,1,2] (by decide) rfl rfl)
     ·rintro n _ Ñ Ì W Y
      refine aO _ W Y (ai (aa (.map m) (aI 0 2 il ft AP GV rfl rfl (.d (.agg (Tally.enc (⟨c.Player,c.Item,l,0,0⟩:Tally)))) rfl wz (Es (eq:=(λ(a b:Tally)=>(eqS a.Player b.Player&&(eqS a.Item b.Item&&(eqI a.Day b.Day&&(eqI a.Many b.Many&&(eqI a.Long b.Long&&true))))))) (kD:=(λx=>D.agg (Tally.enc x))) (es:=w) (ns:=n) (k:=(⟨c.Player,c.Item,l,0,0⟩:Tally)) 0 0 il ft (λ_ _=>rfl) mt91 (by kernel_rfl) (by kernel_rfl) rfl rfl rfl wz ?_))))
      obtain ⟨C,Ô,u⟩:=bind_some u
      refine bT (v':=(.ref (n C) 0 0)) 47 rfl (P8 Ô) (aa (.ref (n C) 0 0) (aK TW rfl 3 rfl wz ?_))
      obtain ⟨B,ß,u⟩:=bind_some u
      refine J3 (H0:=(([(m,some (pmB (λx=>D.agg (Tally.enc x)) n w)),(y,some (.cells 4 (Play.v c))),(z,some (.cells 5 [(vS c.Player),(vS c.Item),(vI l),(vI 0),(vI 0)]))]:Hp)++(pmT 5 Tally.enc n w))) rfl (Ut 0 il ft sz3 ag3 rfl ß (vI B.2.Many) rfl wz (aa (vI (w64 (B.2.Many+1))) (aa (.ref (n C) 0 0) (aK TW rfl 3 rfl wz ?_))))
      obtain ⟨g,Ï,u⟩:=bind_some u
      refine J3 (H0:=(([(m,some (pmB (λx=>D.agg (Tally.enc x)) n w)),(y,some (.cells 4 (Play.v c))),(z,some (.cells 5 [(vS c.Player),(vS c.Item),(vI l),(vI 0),(vI 0)]))]:Hp)++(pmT 5 Tally.enc n w))) rfl (h_pst 0 il ft sz3 rfl Ï (⟨g.2.Player,g.2.Item,g.2.Day,(w64 (B.2.Many+1)),g.2.Long⟩:Tally) rfl wz (Nh (b':=some (pmB (λx=>D.agg (Tally.enc x)) n (w.set C (g.1,(⟨g.2.Player,g.2.Item,g.2.Day,(w64 (B.2.Many+1)),g.2.Long⟩:Tally))))) 0 rfl (Pt Ï) (af (bg (aa (.map m) (aI 1 2 (.inr (by kernel_rfl)) (λ_ _ ag=>trivial) AP GV rfl rfl (.d (.agg (Tally.enc (⟨c.Player,c.Item,l,0,0⟩:Tally)))) rfl wz (Es (eq:=(λ(a b:Tally)=>(eqS a.Player b.Player&&(eqS a.Item b.Item&&(eqI a.Day b.Day&&(eqI a.Many b.Many&&(eqI a.Long b.Long&&true))))))) (kD:=(λx=>D.agg (Tally.enc x))) (es:=(w.set C (g.1,(⟨g.2.Player,g.2.Item,g.2.Day,(w64 (B.2.Many+1)),g.2.Long⟩:Tally)))) (ns:=n) (k:=(⟨c.Player,c.Item,l,0,0⟩:Tally)) 2 0 (.inr (by kernel_rfl)) (λ_ _ ag=>⟨.inl ⟨rfl,rfl⟩,trivial⟩) (λ_ _=>rfl) mt91 (by kernel_rfl) (by kernel_rfl) rfl rfl rfl wz ?_)))))))
      obtain ⟨J,Õ,u⟩:=bind_some u
      refine bT (v':=(.ref (n J) 0 0)) 56 rfl (P8 Õ) (aa (.ref (n J) 0 0) (aK UD rfl 4 rfl wz ?_))
      obtain ⟨H,à,u⟩:=bind_some u
      refine J3 (H0:=(([(m,some (pmB (λx=>D.agg (Tally.enc x)) n (w.set C (g.1,(⟨g.2.Player,g.2.Item,g.2.Day,(w64 (B.2.Many+1)),g.2.Long⟩:Tally))))),(y,some (.cells 4 (Play.v c))),(z,some (.cells 5 [(vS c.Player),(vS c.Item),(vI l),(vI 0),(vI 0)]))]:Hp)++(pmT 5 Tally.enc n (w.set C (g.1,(⟨g.2.Player,g.2.Item,g.2.Day,(w64 (B.2.Many+1)),g.2.Long⟩:Tally)))))) rfl (Ut 5 (.inr (by kernel_rfl)) (λ_ _ ag=>⟨.inl ⟨rfl,rfl⟩,⟨.inl ⟨rfl,rfl⟩,trivial⟩⟩) sz3 ag3 rfl à (vI H.2.Long) rfl wz (aK Tj rfl 3 rfl wz (aI 7 1 (.inr (by kernel_rfl)) (λ_ _ ag=>⟨.inl ⟨rfl,rfl⟩,⟨.inl ⟨rfl,rfl⟩,⟨.inl ⟨rfl,rfl⟩,trivial⟩⟩⟩) sz3 ag3 rfl rfl (vI c.Long) rfl wz (aa (vI (w64 (H.2.Long+c.Long))) (aa (.ref (n J) 0 0) (aK UD rfl 4 rfl wz ?_))))))
      obtain ⟨o,Ð,u⟩:=bind_some u
      refine J3 (H0:=(([(m,some (pmB (λx=>D.agg (Tally.enc x)) n (w.set C (g.1,(⟨g.2.Player,g.2.Item,g.2.Day,(w64 (B.2.Many+1)),g.2.Long⟩:Tally))))),(y,some (.cells 4 (Play.v c))),(z,some (.cells 5 [(vS c.Player),(vS c.Item),(vI l),(vI 0),(vI 0)]))]:Hp)++(pmT 5 Tally.enc n (w.set C (g.1,(⟨g.2.Player,g.2.Item,g.2.Day,(w64 (B.2.Many+1)),g.2.Long⟩:Tally)))))) rfl (h_pst 11 (.inr (by kernel_rfl)) (λ_ _ ag=>⟨.inr (.inr (by kernel_rfl)),⟨.inr (.inr (by kernel_rfl)),⟨.inr (.inr (by kernel_rfl)),⟨.inr (.inr (by kernel_rfl)),trivial⟩⟩⟩⟩) sz3 rfl Ð (⟨o.2.Player,o.2.Item,o.2.Day,o.2.Many,(w64 (H.2.Long+c.Long))⟩:Tally) rfl wz (Nh (b':=some (pmB (λx=>D.agg (Tally.enc x)) n ((w.set C (g.1,(⟨g.2.Player,g.2.Item,g.2.Day,(w64 (B.2.Many+1)),g.2.Long⟩:Tally))).set J (o.1,(⟨o.2.Player,o.2.Item,o.2.Day,o.2.Many,(w64 (H.2.Long+c.Long))⟩:Tally))))) 0 rfl (Pt Ð) (af (au (dH (bz P Ø) wz rfl (aa (vI ((K+1:Nat):Int)) (af ?_)))))))
      obtain rfl:=ae u
      exact aV (K+1,É,((w.set C (g.1,(⟨g.2.Player,g.2.Item,g.2.Day,(w64 (B.2.Many+1)),g.2.Long⟩:Tally))).set J (o.1,(⟨o.2.Player,o.2.Item,o.2.Day,o.2.Many,(w64 (H.2.Long+c.Long))⟩:Tally))),n) ⟨U,aX P⟩ (ls_ _) rfl (Au (C1:=([(m,some (pmB (λx=>D.agg (Tally.enc x)) n ((w.set C (g.1,(⟨g.2.Player,g.2.Item,g.2.Day,(w64 (B.2.Many+1)),g.2.Long⟩:Tally))).set J (o.1,(⟨o.2.Player,o.2.Item,o.2.Day,o.2.Many,(w64 (H.2.Long+c.Long))⟩:Tally))))),(y,some (.cells 4 (Play.v c))),(z,some (.cells 5 [(vS c.Player),(vS c.Item),(vI l),(vI 0),(vI 0)]))]:Hp)) (T:=(pmT 5 Tally.enc n ((w.set C (g.1,(⟨g.2.Player,g.2.Item,g.2.Day,(w64 (B.2.Many+1)),g.2.Long⟩:Tally))).set J (o.1,(⟨o.2.Player,o.2.Item,o.2.Day,o.2.Many,(w64 (H.2.Long+c.Long))⟩:Tally))))) [0] (by decide) rfl rfl)
   ·rintro ⟨j,h⟩ Ú Ñ Ì W Y
    subst Ú
    refine aO _ W Y (ai (aa .nil (af (ak (ai (aa (.map m) (h_range (f:=(λ(e:Nat×Tally)=>((λx=>D.agg (Tally.enc x)) e.2,V.ref (h e.1) 0 0))) (left:=(pmL j)) 0 (by kernel_rfl) rfl rfl (SN _) wz (λM=>af (iM (λÊ=>UF (C0:=([(M,some (iB (λ(e:Nat×Tally)=>((λx=>D.agg (Tally.enc x)) e.2,V.ref (h e.1) 0 0)) none (pmL j)))]:Hp)) (T:=(pmT 5 Tally.enc h j)) (X:=([(Ê,gB 5 Tally.enc ([]:List Tally))]:Hp)) ?_))))))))))
    have Ö:=Oj q
    refine Sz (σ:=(List Tally)) (N:=Nm) (λp=>(λ(A:List Tally) (t:Nm)=>([(12,(gV t 5 A))]:SL_)) p.1 p.2) (λp=>(λ(A:List Tally) (t:Nm)=>(([(t,gB 5 Tally.enc A)]:Hp)++(pmT 5 Tally.enc h j))) p.1 p.2) (λp=>(λ(A:List Tally) (t:Nm)=>([(12,(gV t 5 A)),(67,(.ref M 0 0))]:SL_)) p.1 p.2) (λ(G:List (Nat×Tally)) (Á:Option (Nat×Tally))=>(λp=>(λ(A:List Tally) (t:Nm)=>(([(M,some (iB (λ(e:Nat×Tally)=>((λx=>D.agg (Tally.enc x)) e.2,V.ref (h e.1) 0 0)) Á G)),(t,gB 5 Tally.enc A)]:Hp)++(pmT 5 Tally.enc h j))) p.1 p.2)) (λx s=>ko j x s) _ _ (pmL j) (([]:List Tally),Ê) Ö rfl (Au (C1:=([(M,some (iB (λ(e:Nat×Tally)=>((λx=>D.agg (Tally.enc x)) e.2,V.ref (h e.1) 0 0)) none (pmL j))),(Ê,gB 5 Tally.enc ([]:List Tally))]:Hp)) (T:=(pmT 5 Tally.enc h j)) [0,1] (by decide) rfl rfl) ?_ ?_
    ·rintro ⟨G,Á,A,t⟩ Ä
     dsimp only at Ä
     refine ai (h_next (f:=(λ(e:Nat×Tally)=>((λx=>D.agg (Tally.enc x)) e.2,V.ref (h e.1) 0 0))) (cur:=Á) (left:=G) 0 rfl rfl wz (λhl_ => ?_) (λÂ F Î => ?_))
     ·refine aL (vB false) wz rfl (af ?_)
      refine ak (ax rfl rfl (aU ?_))
      exact aW (A,t) (Ä [] (by rw [hl_])) rfl (Au (C1:=([(M,some (iB (λ(e:Nat×Tally)=>((λx=>D.agg (Tally.enc x)) e.2,V.ref (h e.1) 0 0)) Á G)),(t,gB 5 Tally.enc A)]:Hp)) (T:=(pmT 5 Tally.enc h j)) [1] (by decide) rfl rfl)
     ·obtain ⟨Ò,Q,Ó⟩:=Q3 Ä Î
      refine aL (vB true) wz rfl (af ?_)
      refine ak (ay rfl rfl (av ?_))
      unfold ko at Q
      refine aM (ai (h_entry (f:=(λ(e:Nat×Tally)=>((λx=>D.agg (Tally.enc x)) e.2,V.ref (h e.1) 0 0))) (e:=F) (left:=(G.eraseIdx Â)) 0 rfl rfl (.tup [(.d (.agg (Tally.enc F.2))),(.ref (h F.1) 0 0)]) rfl wz (aa (.ref (h F.1) 0 0) (aa (.ref (h F.1) 0 0) (af (au (aa (gV t 5 A) (aa (.ref (h F.1) 0 0) (aa (.ref (h F.1) 0 0) ?_)))))))))
      obtain ⟨Í,á,Q⟩:=bind_some Q
      refine J3 (H0:=(([(M,some (iB (λ(e:Nat×Tally)=>((λx=>D.agg (Tally.enc x)) e.2,V.ref (h e.1) 0 0)) (some F) (G.eraseIdx Â))),(t,gB 5 Tally.enc A)]:Hp)++(pmT 5 Tally.enc h j))) rfl (Ut 0 il ft AP GV rfl á (.d (.agg (Tally.enc Í.2))) rfl wz (eu (([Í.2]:List Tally).map Tally.enc) Ms ez43 rfl rfl rfl rfl rfl wz ?_))
      obtain ⟨Ã,â,Q⟩:=bind_some Q
      refine jF 0 il ft (i:=1) el43 el43 AP z48 rfl (by decide) by48 (by decide) (λ_=>rfl) rfl rfl rfl â wz (λË=>aa (gV Ë 5 Ã) (af ?_))
      obtain rfl:=ae Q
      exact aV (G.eraseIdx Â,some F,Ã,Ë) (Ó _ rfl) (Um Î) rfl (Au (C1:=([(M,some (iB (λ(e:Nat×Tally)=>((λx=>D.agg (Tally.enc x)) e.2,V.ref (h e.1) 0 0)) (some F) (G.eraseIdx Â))),(Ë,gB 5 Tally.enc Ã)]:Hp)) (T:=(pmT 5 Tally.enc h j)) [0,1] (by decide) rfl rfl)
    ·rintro ⟨A,t⟩ q Ñ Ì W Y
     dsimp only [thenC]at q
     refine aO _ W Y (ai (aa (gV t 5 A) ?_))
     obtain ⟨À,Ý,q⟩:=bind_some q
     obtain ⟨_,Z,q⟩:=bind_some q
     replace Z:=iY Z
     refine jN 0 [] 0 0 il ft (nJ Ý) rfl hb41 rfl rfl rfl (by kernel_rfl) rfl (.inl rfl) rfl (by kernel_rfl) (by kernel_rfl) (by kernel_rfl) (by kernel_rfl) rfl (by decide) (by kernel_rfl) jm (qY Z) wz (([(t,gB 5 Tally.enc À)]:Hp)++(pmT 5 Tally.enc h j)) (by kernel_rfl) (bT (v':=(gV t 5 À)) 12 rfl (jg Z.symm) (bT (v':=(gV t 5 À)) 78 rfl (jg Z.symm) (af (ai (aa (gV t 5 À) (aa (gV t 5 À) (aa (vI 0) (af ?_))))))))
     obtain rfl:=ae q
     exact aC (yD (outs:=([]:List Box)) [.int .i64 0] (.inr rfl) 0 rfl ⟨rfl,trivial⟩ rfl rfl (by kernel_rfl) (by kernel_rfl))
theorem wV {a:Int} {b:Int} {r:Int} (c:nu a b=some r) :
  FnM Tryz.prog 46 [(vI a),(vI b)] [] (vI r) []:=by
 refine FnM.of_wH ⟨Tryz.prog,12,[],[]⟩ rfl Tryz.func46 rfl rfl (lb_ rfl) (by kernel_rfl) ?_
 unfold nu at c
 refine ai (aa (vI 0) (af (ai (aa (vI a) (aa (vI b) (aa (vI (w64 (a-b))) (aa (vI b) (aa (vI a) (aa (vI (w64 (b-a))) (uE (vI (jI (w64 (a-b)) (w64 (b-a)))) rfl (.inr rfl) wz (aa (vI (jI (w64 (a-b)) (w64 (b-a)))) (af ?_))))))))))))
 obtain rfl:=ae c
 exact aC (aN [(vI (jI (w64 (a-b)) (w64 (b-a))))] ⟨rfl,trivial⟩)
theorem wD {c:(List Match)} {r:(List Match)} (h:iZ c=some r) :
  FnM Tryz.prog 14 [(dV (aA 0) 2 c)] (([]:List Box)++gI 2 Match.enc c) (.tup []) (([]:List Box).map some++gT c (gB 2 Match.enc r)):=by
 refine FnM.of_wHv ⟨Tryz.prog,14,[],[]⟩ rfl Tryz.func14 rfl rfl (lb_ rfl) (by kernel_rfl) ?_
 unfold iZ at h
 refine ai (dA 0 (.inl rfl) z54 rfl wz (λl=>af (ai (aa (dV (aA 0) 2 c) (xR un49 rfl wz (aa (vI 0) (af ?_)))))))
 obtain ⟨u,i,h⟩:=bind_some h
 obtain ⟨n,i⟩:=aY i
 refine bN (λ(a:List Match)=>[]) (λ(a:List Match)=>[((aA 0),gB 2 Match.enc a),(l,some (.cells 2 [(vI 0),(vI 0)]))]) (λ(b:Nat)=>(λ(a:List Match)=>[(0,(dV (aA 0) 2 a)),(2,(.ref l 0 0)),(5,(vI (c.length:Int))),(6,(vI (b:Int)))])) (λk x s=>jh k x s) u (List.range ((c.length:Int)).toNat) c i rfl (aG rfl) ?_ ?_
 ·rintro ⟨b,j,a⟩ ⟨g,f⟩
  dsimp only at g f
  cases j with
  | nil =>
   obtain rfl:=ae g
   refine ai (aa (vB (decide ((b:Int)<(c.length:Int)))) (af ?_))
   refine ak (ax rfl (lH f) (aU ?_))
   exact aW (a) rfl rfl (aG rfl)
  | cons B j =>
   obtain ⟨w,e,g⟩:=bind_some g
   refine ai (aa (vB (decide ((b:Int)<(c.length:Int)))) (af ?_))
   refine ak (ay rfl (jZ f) (av ?_))
   unfold jh at e
   refine ak (aM (ai (aa (vI (b:Int)) (aa (vI (b:Int)) (af (au (aa (dV (aA 0) 2 a) (aa (vI (b:Int)) (aI 0 1 il ft sz54 ag54 rfl rfl (.d (.agg (Match.enc (⟨0,0⟩:Match)))) rfl wz ?_)))))))))
   obtain ⟨_,m,e⟩:=bind_some e
   refine je es49 rfl rfl (ik m) (dN m) wz ?_
   obtain ⟨y,t,e⟩:=bind_some e
   refine sw 0 il ft 0 sz54 rfl rfl t (⟨0,0⟩:Match) rfl wz (bT (v':=(dV (aA 0) 2 (a.set (0+((b:Int)).toNat) (⟨0,0⟩:Match)))) 0 rfl (bC (by simp)) (bT (v':=(dV (aA 0) 2 (a.set (0+((b:Int)).toNat) (⟨0,0⟩:Match)))) 9 rfl (bC (by simp)) (af (au (dH (lF f n) wz rfl (aa (vI ((b+1:Nat):Int)) (af ?_)))))))
   obtain rfl:=ae e
   exact aV (b+1,j,(a.set (0+((b:Int)).toNat) (⟨0,0⟩:Match))) ⟨g,aX f⟩ (ls_ _) rfl (aG rfl)
 ·rintro a p A v z q
  subst p
  show qI _ _ _ _ _ _ _ _
  obtain rfl:=ae h
  exact qz (H0:=([((aA 0),gB 2 Match.enc a),(l,some (.cells 2 [(vI 0),(vI 0)]))]:Hp)) (sl':=envS []) q (oq (bs:=([]:List Box)) (os:=([]:List Box)) (xs:=c) (o:=gB 2 Match.enc a) (.inl rfl) [] trivial rfl rfl rfl rfl rfl (by kernel_rfl) jm rfl)
theorem Dt {e:(List Play)} {b:(List Play)} {q:Int} {r:(List Match)×(List Int)×Int} (m:qg e b q=some r) :
  FnM Tryz.prog 13 [(vL Play.enc e),(vL Play.enc b),(vI q)] [] (nN [dl eI r.2.1,.int .i64 r.2.2] (gV (aA 0) 2 r.1)) (([]:List Box).map some++gO 2 Match.enc r.1):=by
 refine FnM.of_wH ⟨Tryz.prog,128,[],[]⟩ rfl Tryz.func13 rfl rfl (lb_ rfl) (by kernel_rfl) ?_
 unfold qg at m
 refine ai (aa .nil (aa .nil (aa (vI 0) (af (ak (ai (aa (vL Play.enc e) (aa (vL Play.enc b) (aL (.d (.agg [dl Play.enc e,dl Play.enc b])) wz (by kernel_rfl) (aa (vI 0) (af ?_)))))))))))
 obtain ⟨û,Ð,m⟩:=bind_some m
 obtain ⟨ë,Ð⟩:=aY Ð
 refine bN (λ(À:Unit)=>[(0,(vL Play.enc e)),(1,(vL Play.enc b)),(2,(vI q))]) (λ(À:Unit)=>[]) (λ(R:Nat)=>(λ(À:Unit)=>[(0,(vL Play.enc e)),(1,(vL Play.enc b)),(2,(vI q)),(24,(.d (.agg [dl Play.enc e,dl Play.enc b]))),(25,(vI (R:Int)))])) (λk x s=>iV e b k x s) û (List.range (2:Int).toNat) () Ð rfl (aG rfl) ?_ ?_
 ·rintro ⟨R,Õ,À⟩ ⟨P,U⟩
  dsimp only at P U
  cases Õ with
  | nil =>
   obtain rfl:=ae P
   refine ai (aa (vB (decide ((R:Int)<2))) (af ?_))
   refine ak (ax rfl (lH U) (aU ?_))
   exact aW (À) rfl rfl (aG rfl)
  | cons ą Õ =>
   obtain ⟨Å,C,P⟩:=bind_some P
   refine ai (aa (vB (decide ((R:Int)<2))) (af ?_))
   refine ak (ay rfl (jZ U) (av ?_))
   unfold iV at C
   refine ak (aM (ai ?_))
   obtain ⟨Ú,ò,C⟩:=bind_some C
   refine SE (enc:=(eL Play.enc)) (xs:=([e,b]:List (List Play))) un96 sz30 ag30 rfl rfl rfl rfl ò (λ_=>rfl) (.inr rfl) (vL Play.enc Ú) rfl wz (aa (vL Play.enc Ú) (af (ai (aa (vL Play.enc Ú) ?_))))
   obtain ⟨T,í,C⟩:=bind_some C
   refine aB (uW í) rfl hb38 rfl rfl rfl rfl wz (aa (vI T) (af (ai (aa (vI T) (aa (vB (T != 0)) (af ?_))))))
   rcases aj C with⟨Ç,C⟩|⟨Ç,C⟩
   ·refine ay rfl Ç (ai (aa (vI T) (aa .nil (aa .nil (aa (vI T) (af (iM (λĂ=>Bu eI 7 rfl ?_))))))))
    obtain rfl:=ae C
    obtain rfl:=ae P
    obtain rfl:=ae m
    exact aC (yD (outs:=([]:List Box)) [dl eI ([]:List Int),.int .i64 T] (.inr rfl) 0 rfl ⟨rfl,⟨rfl,trivial⟩⟩ rfl rfl (by kernel_rfl) (by kernel_rfl))
   ·refine ax rfl Ç (av (au (dH (lF U ë) wz rfl (aa (vI ((R+1:Nat):Int)) (af ?_)))))
    obtain rfl:=ae C
    exact aV (R+1,Õ,()) ⟨P,aX U⟩ (ls_ _) rfl (aG rfl)
 ·rintro À L J G n o
  subst L
  refine aO _ n o (ak (ai (aa (vI q) ?_)))
  obtain ⟨Ą,î,m⟩:=bind_some m
  refine aB (bf î) rfl qc rfl rfl rfl rfl wz (af ?_)
  rcases aj m with⟨È,m⟩|⟨È,m⟩
  ·refine ay rfl È (ai (aa .nil (aa .nil (aa (vI 1) (af (iM (λă=>Bu eI 7 rfl ?_)))))))
   obtain rfl:=ae m
   exact aC (yD (outs:=([]:List Box)) [dl eI ([]:List Int),.int .i64 1] (.inr rfl) 0 rfl ⟨rfl,⟨rfl,trivial⟩⟩ rfl rfl (by kernel_rfl) (by kernel_rfl))
  ·refine ax rfl È (av (ai (aa (vL Play.enc b) (bA Je rfl wz ?_))))
   obtain ⟨à,é,m⟩:=bind_some m
   refine Rx (enc:=eB) 0 (.inl rfl) false el97 sz4 z4 by4 rfl rfl (by decide) rfl rfl rfl é wz (λg=>aa (vV g 1 (List.replicate à (false:Bool))) (af (ai (aa .nil (af (ak (ai (aa (vL Play.enc e) (bA Je rfl wz (aa (vI 0) (af (iM (λù => ?_)))))))))))))
   obtain ⟨ü,Ñ,m⟩:=bind_some m
   obtain ⟨ê,Ñ⟩:=aY Ñ
   refine iw (σ:=(List Bool)×(List Match)) (N:=Nm) (λp=>(λ(a:(List Bool)×(List Match)) (c:Nm)=>([(12,(vV g 1 a.1)),(13,(gV c 2 a.2))]:SL_)) p.1 p.2) (λp=>(λ(a:(List Bool)×(List Match)) (c:Nm)=>([(g,some (bV 1 eB a.1)),(c,gB 2 Match.enc a.2)]:Hp)) p.1 p.2) (λ(f:Nat)=>(λp=>(λ(a:(List Bool)×(List Match)) (c:Nm)=>([(1,(vL Play.enc b)),(2,(vI q)),(12,(vV g 1 a.1)),(13,(gV c 2 a.2)),(39,(vL Play.enc e)),(40,(vI (e.length:Int))),(41,(vI (f:Int)))]:SL_)) p.1 p.2)) (λk x s=>mI b q k x s) ü e (((List.replicate à (false:Bool)),([]:List Match)),ù) Ñ rfl (aG rfl) ?_ ?_
   ·rintro ⟨f,Ô,a,c⟩ ⟨W,M⟩
    dsimp only at W M
    cases Ô with
    | nil =>
     obtain rfl:=ae W
     refine ai (aa (vB (decide ((f:Int)<(e.length:Int)))) (af ?_))
     refine ak (ax rfl (drop_nil M) (aU ?_))
     exact aW (a,c) rfl rfl (aG rfl)
    | cons t Ô =>
     obtain ⟨Å,I,W⟩:=bind_some W
     refine ai (aa (vB (decide ((f:Int)<(e.length:Int)))) (af ?_))
     refine ak (ay rfl (bu M) (av ?_))
     unfold mI at I
     refine ak (aM (ai (aa (vI (f:Int)) (dC IM rfl rfl (bI M) rfl wz (bE zV Jk rfl (.d (.agg (Play.enc t))) rfl wz (dA 0 (.inl rfl) z42 rfl wz (λF=>aa (vI (f:Int)) (jw 0 il ft 2 zV rfl rfl (Play.v t) rfl wz (af (ai (aa (vI (-1)) (af (ak (ai (aa (vL Play.enc b) (bA Je rfl wz (aa (vI 0) (af ?_))))))))))))))))))
     obtain ⟨ý,Ò,I⟩:=bind_some I
     obtain ⟨ß,Ò⟩:=aY Ò
     refine bN (λ(h:Int)=>[(1,(vL Play.enc b)),(2,(vI q)),(12,(vV g 1 a.1)),(13,(gV c 2 a.2)),(14,(vI (f:Int))),(16,(vI h)),(39,(vL Play.enc e)),(40,(vI (e.length:Int))),(41,(vI (f:Int)))]) (λ(h:Int)=>[(g,some (bV 1 eB a.1)),(c,gB 2 Match.enc a.2),(F,some (.cells 4 (Play.v t)))]) (λ(l:Nat)=>(λ(h:Int)=>[(1,(vL Play.enc b)),(2,(vI q)),(12,(vV g 1 a.1)),(13,(gV c 2 a.2)),(14,(vI (f:Int))),(15,(.ref F 0 0)),(16,(vI h)),(39,(vL Play.enc e)),(40,(vI (e.length:Int))),(41,(vI (f:Int))),(46,(vL Play.enc b)),(47,(vI (b.length:Int))),(48,(vI (l:Int)))])) (λk x s=>jE a t q b k x s) ý b (-1) Ò rfl (aG rfl) ?_ ?_
     ·rintro ⟨l,Â,h⟩ ⟨Q,H⟩
      dsimp only at Q H
      cases Â with
      | nil =>
       obtain rfl:=ae Q
       refine ai (aa (vB (decide ((l:Int)<(b.length:Int)))) (af ?_))
       refine ak (ax rfl (drop_nil H) (aU ?_))
       exact aW (h) rfl rfl (aG rfl)
      | cons u Â =>
       obtain ⟨Å,w,Q⟩:=bind_some Q
       refine ai (aa (vB (decide ((l:Int)<(b.length:Int)))) (af ?_))
       refine ak (ay rfl (bu H) (av ?_))
       unfold jE at w
       refine ak (aM (ai (aa (vI (l:Int)) (dC IM rfl rfl (bI H) rfl wz (bE zV Jk rfl (.d (.agg (Play.enc u))) rfl wz (dA 0 (.inl rfl) z42 rfl wz (λÃ=>aa (vI (l:Int)) (jw 0 il ft 3 zV rfl rfl (Play.v u) rfl wz (af (ak (ak ?_)))))))))))
       obtain ⟨ÿ,j,w⟩:=bind_some w
       refine aR [(1,(vL Play.enc b)),(2,(vI q)),(12,(vV g 1 a.1)),(13,(gV c 2 a.2)),(14,(vI (f:Int))),(15,(.ref F 0 0)),(16,(vI h)),(17,(vI (l:Int))),(18,(.ref Ã 0 0)),(39,(vL Play.enc e)),(40,(vI (e.length:Int))),(41,(vI (f:Int))),(46,(vL Play.enc b)),(47,(vI (b.length:Int))),(48,(vI (l:Int))),(79,(vB ÿ))] [(g,some (bV 1 eB a.1)),(c,gB 2 Match.enc a.2),(F,some (.cells 4 (Play.v t))),(Ã,some (.cells 4 (Play.v u)))] ?_ ?_
       ·refine au (aa (vV g 1 a.1) (aa (vI (l:Int)) ?_))
        obtain ⟨_,Ý,j⟩:=bind_some j
        refine zO es97 rfl rfl (ik Ý) (dN Ý) wz ?_
        obtain ⟨è,ó,j⟩:=bind_some j
        refine Fy 0 0 il ft sz4 ag4 rfl rfl ó (vB è) rfl wz ?_
        rcases aj j with⟨É,j⟩|⟨É,j⟩
        ·refine aH rfl É wz (ah (ah (ah (ah (ah (aa (vB true) (aa (vB true) (ah (ah (ah (ah (ah (aa (vB true) (aa (vB true) (ah (ah (ah (ah (ah (ah (ah (aa (vB true) (af ?_)))))))))))))))))))))))
         obtain rfl:=ae j
         exact cu
        ·refine aH rfl É wz (aK Ew rfl 0 rfl wa (aI 0 3 il ft sz9 ag9 rfl rfl (vS u.Player) rfl wa (aK Ew rfl 0 rfl wa (aI 0 2 il ft sz9 ag9 rfl rfl (vS t.Player) rfl wa (aL (vB (sNe u.Player t.Player)) wa rfl (aa (vB (sNe u.Player t.Player)) ?_))))))
         rcases aj j with⟨Ê,j⟩|⟨Ê,j⟩
         ·refine aH rfl Ê wz (ah (ah (ah (ah (ah (aa (vB true) (aa (vB true) (ah (ah (ah (ah (ah (ah (ah (aa (vB true) (af ?_))))))))))))))))
          obtain rfl:=ae j
          exact cu
         ·refine aH rfl Ê wz (aK K7 rfl 1 rfl wa (aI 0 3 il ft sz9 ag9 rfl rfl (vS u.Item) rfl wa (aK K7 rfl 1 rfl wa (aI 0 2 il ft sz9 ag9 rfl rfl (vS t.Item) rfl wa (aL (vB (sNe u.Item t.Item)) wa rfl (aa (vB (sNe u.Item t.Item)) ?_))))))
          rcases aj j with⟨Ë,j⟩|⟨Ë,j⟩
          ·refine aH rfl Ë wz (ah (ah (ah (ah (ah (ah (ah (aa (vB true) (af ?_)))))))))
           obtain rfl:=ae j
           exact cu
          ·refine aH rfl Ë wz (aK xP rfl 2 rfl wa (aI 0 3 il ft sz3 ag3 rfl rfl (vI u.At) rfl wa (aK xP rfl 2 rfl wa (aI 0 2 il ft sz3 ag3 rfl rfl (vI t.At) rfl wa ?_))))
           obtain ⟨ã,ï,j⟩:=bind_some j
           refine aB (wV ï) rfl hb46 rfl rfl rfl rfl wa (aL (vI q) wa rfl (aL (vB (decide (ã>q))) wa rfl (aa (vB (decide (ã>q))) (af ?_))))
           obtain rfl:=ae j
           exact cu
       ·rintro ⟨⟩ _ J G n o
        refine aO _ n o ?_
        rcases aj w with⟨Ì,w⟩|⟨Ì,w⟩
        ·refine ay rfl Ì (aU (au (dH (bz H ß) wz rfl (aa (vI ((l+1:Nat):Int)) (af ?_)))))
         obtain rfl:=ae w
         exact aV (l+1,Â,h) ⟨Q,aX H⟩ (ls_ _) rfl (aG rfl)
        ·refine ax rfl Ì (av (ak ?_))
         obtain ⟨Ā,A,w⟩:=bind_some w
         refine aR [(1,(vL Play.enc b)),(2,(vI q)),(12,(vV g 1 a.1)),(13,(gV c 2 a.2)),(14,(vI (f:Int))),(15,(.ref F 0 0)),(16,(vI h)),(17,(vI (l:Int))),(39,(vL Play.enc e)),(40,(vI (e.length:Int))),(41,(vI (f:Int))),(46,(vL Play.enc b)),(47,(vI (b.length:Int))),(48,(vI (l:Int))),(97,(vB Ā))] [(g,some (bV 1 eB a.1)),(c,gB 2 Match.enc a.2),(F,some (.cells 4 (Play.v t))),(Ã,some (.cells 4 (Play.v u)))] ?_ ?_
         ·refine bg (aa (vI h) (aa (vB (decide (h<0))) ?_))
          rcases aj A with⟨Í,A⟩|⟨Í,A⟩
          ·refine aH rfl Í wz (ah (ah (ah (ah (ah (ah (ah (ah (ah (ah (ah (ah (ah (ah (aa (vB true) (af ?_))))))))))))))))
           obtain rfl:=ae A
           exact cu
          ·refine aH rfl Í wz (aK xP rfl 2 rfl wa (aI 4 3 (.inr (by kernel_rfl)) (λ_ _ ag=>trivial) sz3 ag3 rfl rfl (vI u.At) rfl wa (aK xP rfl 2 rfl wa (aI 6 2 (.inr (by kernel_rfl)) (λ_ _ ag=>⟨.inl ⟨rfl,rfl⟩,trivial⟩) sz3 ag3 rfl rfl (vI t.At) rfl wa ?_))))
           obtain ⟨ä,ð,A⟩:=bind_some A
           refine aB (wV ð) rfl hb46 rfl rfl rfl rfl wa (aL (vL Play.enc b) wa rfl (aL (vI h) wa rfl ?_))
           obtain ⟨Û,ô,A⟩:=bind_some A
           refine dC IM rfl rfl ô rfl wa (qh xP rfl [.int .i64 Û.At,.int .i64 Û.Long] rfl rfl wa (bE sz3 ag3 rfl (vI Û.At) rfl wa (aK xP rfl 2 rfl wa (aI 14 2 (.inr (by kernel_rfl)) (λ_ _ ag=>⟨.inl ⟨rfl,rfl⟩,⟨.inl ⟨rfl,rfl⟩,trivial⟩⟩) sz3 ag3 rfl rfl (vI t.At) rfl wa ?_))))
           obtain ⟨å,ñ,A⟩:=bind_some A
           refine aB (wV ñ) rfl hb46 rfl rfl rfl rfl wa (aL (vB (decide (ä<å))) wa rfl (aa (vB (decide (ä<å))) (af ?_)))
           obtain rfl:=ae A
           exact cu
         ·rintro ⟨⟩ _ J G n o
          refine aO _ n o ?_
          obtain ⟨æ,Y,w⟩:=bind_some w
          refine aR [(1,(vL Play.enc b)),(2,(vI q)),(12,(vV g 1 a.1)),(13,(gV c 2 a.2)),(14,(vI (f:Int))),(15,(.ref F 0 0)),(16,(vI æ)),(39,(vL Play.enc e)),(40,(vI (e.length:Int))),(41,(vI (f:Int))),(46,(vL Play.enc b)),(47,(vI (b.length:Int))),(48,(vI (l:Int)))] [(g,some (bV 1 eB a.1)),(c,gB 2 Match.enc a.2),(F,some (.cells 4 (Play.v t))),(Ã,some (.cells 4 (Play.v u)))] ?_ ?_
          ·rcases aj Y with⟨Î,Y⟩|⟨Î,Y⟩
           ·refine ay rfl Î (au (aa (vI (l:Int)) (aa (vI (l:Int)) (af ?_))))
            obtain rfl:=ae Y
            exact cu
           ·refine ax rfl Î (av ?_)
            obtain rfl:=ae Y
            exact cu
          ·rintro ⟨⟩ _ J G n o
           refine aO _ n o (au (dH (bz H ß) wz rfl (aa (vI ((l+1:Nat):Int)) (af ?_))))
           obtain rfl:=ae w
           exact aV (l+1,Â,æ) ⟨Q,aX H⟩ (ls_ _) rfl (aG rfl)
     ·rintro h L J G n o
      subst L
      refine aO _ n o (ak (ai (aa (vI h) (aa (vB (decide (h>=0))) (af ?_)))))
      obtain ⟨Ø,E,I⟩:=bind_some I
      refine aR [(1,(vL Play.enc b)),(2,(vI q)),(12,(vV g 1 Ø)),(13,(gV c 2 a.2)),(14,(vI (f:Int))),(16,(vI h)),(39,(vL Play.enc e)),(40,(vI (e.length:Int))),(41,(vI (f:Int)))] [(g,some (bV 1 eB Ø)),(c,gB 2 Match.enc a.2),(F,some (.cells 4 (Play.v t)))] ?_ ?_
      ·rcases aj E with⟨Ï,E⟩|⟨Ï,E⟩
       ·refine ay rfl Ï (au (aa (vV g 1 a.1) (aa (vI h) ?_)))
        obtain ⟨_,Þ,E⟩:=bind_some E
        refine zO es97 rfl rfl (ik Þ) (dN Þ) wz ?_
        obtain ⟨ā,õ,E⟩:=bind_some E
        refine Dw 0 il ft 0 sz4 rfl rfl õ true rfl wz (bT (v':=(vV g 1 (a.1.set (0+(h).toNat) true))) 12 rfl (xS (by simp)) (bT (v':=(vV g 1 (a.1.set (0+(h).toNat) true))) 102 rfl (xS (by simp)) (af ?_)))
        obtain rfl:=ae E
        exact cu
       ·refine ax rfl Ï (av ?_)
        obtain rfl:=ae E
        exact cu
      ·rintro ⟨⟩ _ J G n o
       refine aO _ n o (au (aa (gV c 2 a.2) (aa (vI (f:Int)) (aa (vI h) (aL (.d (.agg (Match.enc (⟨(f:Int),h⟩:Match)))) wz (by kernel_rfl) (eu (([(⟨(f:Int),h⟩:Match)]:List Match).map Match.enc) es49 ez49 rfl rfl rfl rfl rfl wz ?_))))))
       obtain ⟨Ü,ø,I⟩:=bind_some I
       refine jF 0 il ft (i:=1) el49 el49 sz54 z54 rfl (by decide) by54 (by decide) (λ_=>rfl) rfl rfl rfl ø wz (λâ=>aa (gV â 2 Ü) (af (au (dH (bz M ê) wz rfl (aa (vI ((f+1:Nat):Int)) (af ?_))))))
       obtain rfl:=ae I
       exact aV (f+1,Ô,(Ø,Ü),â) ⟨W,aX M⟩ (ls_ _) rfl (aG rfl)
   ·rintro ⟨a,c⟩ L J G n o
    subst L
    refine aO _ n o (ai (aa .nil (af (ak (ai (aa (vV g 1 a.1) (R7 un97 rfl wz (aa (vI 0) (af (Gl 0 rfl (EY 12 0 rfl rfl (EY 112 0 rfl rfl (iM (λú => ?_))))))))))))))
    obtain ⟨þ,Ó,m⟩:=bind_some m
    obtain ⟨ì,Ó⟩:=aY Ó
    refine iw (σ:=(List Int)) (N:=Nm) (λp=>(λ(z:List Int) (y:Nm)=>([(13,(gV c 2 a.2)),(19,(gV y 1 z))]:SL_)) p.1 p.2) (λp=>(λ(z:List Int) (y:Nm)=>([(g,some (bF 1 eB a.1)),(c,gB 2 Match.enc a.2),(y,gB 1 eI z)]:Hp)) p.1 p.2) (λ(B:Nat)=>(λp=>(λ(z:List Int) (y:Nm)=>([(13,(gV c 2 a.2)),(19,(gV y 1 z)),(112,(vL eB a.1)),(113,(vI (a.1.length:Int))),(114,(vI (B:Int)))]:SL_)) p.1 p.2)) (λk x s=>mK k x s) þ a.1 (([]:List Int),ú) Ó rfl (aG rfl) ?_ ?_
    ·rintro ⟨B,Ö,z,y⟩ ⟨X,O⟩
     dsimp only at X O
     cases Ö with
     | nil =>
      obtain rfl:=ae X
      refine ai (aa (vB (decide ((B:Int)<(a.1.length:Int)))) (af ?_))
      refine ak (ax rfl (drop_nil O) (aU ?_))
      exact aW (z,y) rfl rfl (aG rfl)
     | cons Ä Ö =>
      obtain ⟨Å,Á,X⟩:=bind_some X
      refine ai (aa (vB (decide ((B:Int)<(a.1.length:Int)))) (af ?_))
      refine ak (ay rfl (bu O) (av ?_))
      unfold mK at Á
      refine ak (aM (ai (aa (vI (B:Int)) (dC es97 rfl rfl (bI O) rfl wz (bE sz4 ag4 rfl (vB Ä) rfl wz (aa (vI (B:Int)) (aa (vB Ä) (af (ai (aa (vB Ä) (aa (vB (!Ä)) (af ?_))))))))))))
      obtain ⟨Ù,K,Á⟩:=bind_some Á
      refine lu (β:=Nm) (λ(Z:Nm)=>([(13,(gV c 2 a.2)),(19,(gV Z 1 Ù)),(112,(vL eB a.1)),(113,(vI (a.1.length:Int))),(114,(vI (B:Int)))]:SL_)) (λ(Z:Nm)=>([(g,some (bF 1 eB a.1)),(c,gB 2 Match.enc a.2),(Z,gB 1 eI Ù)]:Hp)) (λ_=>True) ?_ ?_
      ·rcases aj K with⟨Æ,K⟩|⟨Æ,K⟩
       ·refine ay rfl Æ (au (aa (gV y 1 z) (aa (vI (B:Int)) (eu (([(B:Int)]:List Int).map eI) pQ zP rfl rfl rfl rfl rfl wz ?_))))
        obtain ⟨ç,ö,K⟩:=bind_some K
        refine jF 0 il ft (i:=2) Hy Hy sz3 z3 rfl (by decide) by3 (by decide) (λ_=>rfl) rfl rfl rfl ö wz (λá=>aa (gV á 1 ç) (af ?_))
        obtain rfl:=ae K
        exact aW á trivial rfl (aG rfl)
       ·refine ax rfl Æ (av ?_)
        obtain rfl:=ae K
        exact aW y trivial rfl (aG rfl)
      ·rintro Z _ J G n o
       refine aO _ n o (au (dH (bz O ì) wz rfl (aa (vI ((B+1:Nat):Int)) (af ?_))))
       obtain rfl:=ae Á
       exact aV (B+1,Ö,Ù,Z) ⟨X,aX O⟩ (ls_ _) rfl (aG rfl)
    ·rintro ⟨z,y⟩ L J G n o
     subst L
     refine aO _ n o (ai (aa (gV c 2 a.2) (aa (gV y 1 z) (aa (gV c 2 a.2) (aa (gV y 1 z) (aa (vI 0) (af (iq 2 rfl (cO 7 2 rfl rfl (cO 19 2 rfl rfl (cO 127 2 rfl rfl ?_)))))))))))
     obtain rfl:=ae m
     exact aC (yD (outs:=([]:List Box)) [dl eI z,.int .i64 0] (.inr rfl) 1 rfl ⟨rfl,⟨rfl,trivial⟩⟩ rfl rfl (by kernel_rfl) (by kernel_rfl))
theorem Jo {b:Log_} {r:ByteArray} (a:wR b=some r) :
  FnM Tryz.prog 82 [(.d (.agg (Log_.enc b)))] [] (vS r) []:=by
 refine FnM.of_wH ⟨Tryz.prog,24,[],[]⟩ rfl Tryz.func82 rfl rfl (lb_ rfl) (by kernel_rfl) ?_
 unfold wR at a
 refine ai (ib 0 (.inl rfl) (Log_.v b) rfl rfl wz (λp=>aa (vS (⟨#[]⟩:ByteArray)) (af (ak (bg (aK ze rfl 0 rfl wz (aI 1 0 (.inr (by kernel_rfl)) (λ_ _ ag=>trivial) sz9 ag9 rfl rfl (vS b.Player) rfl wz ?_)))))))
 obtain ⟨z,m,a⟩:=bind_some a
 refine pR rfl rfl m wz (aK Lr rfl 1 rfl wz (aI 4 0 (.inr (by kernel_rfl)) (λ_ _ ag=>⟨.inl ⟨rfl,rfl⟩,trivial⟩) sz9 ag9 rfl rfl (vS b.Item) rfl wz ?_))
 obtain ⟨A,n,a⟩:=bind_some a
 refine pR rfl rfl n wz ?_
 obtain ⟨B,o,a⟩:=bind_some a
 refine pR rfl rfl o wz (aK H7 rfl 2 rfl wz (aI 8 0 (.inr (by kernel_rfl)) (λ_ _ ag=>⟨.inl ⟨rfl,rfl⟩,⟨.inl ⟨rfl,rfl⟩,trivial⟩⟩) sz3 ag3 rfl rfl (vI b.No) rfl wz ?_))
 obtain ⟨t,e,a⟩:=bind_some a
 refine aB (qC e) rfl PP rfl rfl rfl rfl wz ?_
 obtain ⟨u,h,a⟩:=bind_some a
 refine pR rfl rfl h wz ?_
 obtain ⟨w,i,a⟩:=bind_some a
 refine pR rfl rfl i wz (aK GQ rfl 3 rfl wz (aI 13 0 (.inr (by kernel_rfl)) (λ_ _ ag=>⟨.inl ⟨rfl,rfl⟩,⟨.inl ⟨rfl,rfl⟩,⟨.inl ⟨rfl,rfl⟩,trivial⟩⟩⟩) sz3 ag3 rfl rfl (vI b.Clock) rfl wz ?_))
 obtain ⟨q,f,a⟩:=bind_some a
 refine aB (qC f) rfl PP rfl rfl rfl rfl wz ?_
 obtain ⟨x,j,a⟩:=bind_some a
 refine pR rfl rfl j wz ?_
 obtain ⟨y,k,a⟩:=bind_some a
 refine pR rfl rfl k wz (aK K4 rfl 4 rfl wz (aI 18 0 (.inr (by kernel_rfl)) (λ_ _ ag=>⟨.inl ⟨rfl,rfl⟩,⟨.inl ⟨rfl,rfl⟩,⟨.inl ⟨rfl,rfl⟩,⟨.inl ⟨rfl,rfl⟩,trivial⟩⟩⟩⟩) sz3 ag3 rfl rfl (vI b.Long) rfl wz ?_))
 obtain ⟨s,g,a⟩:=bind_some a
 refine aB (qC g) rfl PP rfl rfl rfl rfl wz ?_
 obtain ⟨c,l,a⟩:=bind_some a
 refine pR rfl rfl l wz (aa (vS c) (af ?_))
 obtain rfl:=ae a
 exact aC (aN [(vS c)] ⟨rfl,trivial⟩)
theorem sj {a:Int} {r:Bool} (b:gX a=some r) :
  FnM Tryz.prog 194 [(vI a)] [] (vB r) []:=by
 refine FnM.of_wH ⟨Tryz.prog,8,[],[]⟩ rfl Tryz.func194 rfl rfl (lb_ rfl) (by kernel_rfl) ?_
 unfold gX at b
 refine ai (aa (vB false) (af (ai (aa (vI a) (aa (vI a) (aa (vI (w64 (a-1))) (aa (vI (EF .i64 a (w64 (a-1)))) (aa (vB ((EF .i64 a (w64 (a-1)))==0)) (aa (vB ((EF .i64 a (w64 (a-1)))==0)) (af ?_))))))))))
 obtain rfl:=ae b
 exact aC (aN [(vB ((EF .i64 a (w64 (a-1)))==0))] ⟨rfl,trivial⟩)
theorem wm {x0:Int} {r:Int} (a:mQ x0=some r) :
  FnM Tryz.prog 195 [(.d (.int .u64 x0))] [] (vI r) [] :=
 tz_ok db_g Tryz.bits_TrailingZeros laid_db a
end Go.Proofs.YtnfojnnfidnikaeGreatDoor.Law

