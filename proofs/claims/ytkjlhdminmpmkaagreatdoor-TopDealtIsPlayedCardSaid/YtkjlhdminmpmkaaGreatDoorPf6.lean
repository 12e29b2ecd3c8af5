/-
 The machine computes these plain functions (written by a program of ours).
-/
import Derived.Test.YtkjlhdminmpmkaaGreatDoorFacts
import Derived.Test.YtkjlhdminmpmkaaGreatDoorDefs
import Derived.Test.YtkjlhdminmpmkaaGreatDoorPf5
open Go Go.Eng Go.Proofs
namespace Go.Proofs.YtkjlhdminmpmkaaGreatDoor.Law
set_option maxRecDepth 100000
set_option linter.unusedVariables false
set_option maxHeartbeats 1000000
theorem Df {g:(List Log_)} {u:(List Beat)} {r:(List Play)×(List Int)×Int} (h:om g u=some r) :
  FnM Tryz.prog 9 [(vL Log_.enc g),(vL Beat.enc u)] [] (wI [dl eI r.2.1,.int .i64 r.2.2] (gV (av 0) 4 r.1)) (([]:List Box).map some++gO 4 Play.enc r.1):=by
 refine FnM.of_wH ⟨Tryz.prog,118,[],[]⟩ rfl Tryz.func9 rfl rfl (lb_ rfl) (by kernel_rfl) ?_
 unfold om at h
 refine ai (aa .nil (aa .nil (aa (vI 0) (af (ak (ai (aa (vL Log_.enc g) ?_)))))))
 obtain ⟨K,Ò,h⟩:=bind_some h
 refine aG (zm Ò) rfl hb29 rfl rfl rfl rfl wz (aa (vI K) (af (ai (aa (vI K) (aa (vB (K != 0)) (af ?_))))))
 rcases aj h with⟨À,h⟩|⟨À,h⟩
 ·refine aA rfl À (ai (aa (vI K) (aa .nil (aa .nil (aa (vI K) (af (jJ (λè=>DD eI 5 rfl ?_))))))))
  obtain rfl:=ae h
  exact aC (QY (outs:=([]:List Box)) [dl eI ([]:List Int),.int .i64 K] (.inr rfl) 0 rfl ⟨rfl,⟨rfl,trivial⟩⟩ rfl rfl (by kernel_rfl) (by kernel_rfl))
 ·refine ay rfl À (ax (ak (ai (aa (vL Beat.enc u) ?_))))
  obtain ⟨L,Õ,h⟩:=bind_some h
  refine aG (rq Õ) rfl hb30 rfl rfl rfl rfl wz (aa (vI L) (af (ai (aa (vI L) (aa (vB (L != 0)) (af ?_))))))
  rcases aj h with⟨Ã,h⟩|⟨Ã,h⟩
  ·refine aA rfl Ã (ai (aa (vI L) (aa .nil (aa .nil (aa (vI L) (af (jJ (λç=>DD eI 5 rfl ?_))))))))
   obtain rfl:=ae h
   exact aC (QY (outs:=([]:List Box)) [dl eI ([]:List Int),.int .i64 L] (.inr rfl) 0 rfl ⟨rfl,⟨rfl,trivial⟩⟩ rfl rfl (by kernel_rfl) (by kernel_rfl))
  ·refine ay rfl Ã (ax (ai (aa .nil (af (ai (aa .nil (af (ak (ai (aa (vI 0) (aa (vI 0) (af (jJ (λÞ=>jJ (λß => ?_)))))))))))))))
   obtain ⟨â,Ä,h⟩:=bind_some h
   obtain ⟨á,Ä⟩:=bW Ä
   refine xn (σ:=(List Play)×(List Int)×Int) (N:=Nm×Nm) (λp=>(λ(a:(List Play)×(List Int)×Int) (l:Nm) (j:Nm)=>([(9,(gV l 4 a.1)),(10,(gV j 1 a.2.1))]:SL_)) p.1 p.2.1 p.2.2) (λp=>(λ(a:(List Play)×(List Int)×Int) (l:Nm) (j:Nm)=>([(l,gB 4 Play.enc a.1),(j,gB 1 eI a.2.1)]:Hp)) p.1 p.2.1 p.2.2) (λ(R:Nat)=>(λp=>(λ(a:(List Play)×(List Int)×Int) (l:Nm) (j:Nm)=>([(0,(vL Log_.enc g)),(1,(vL Beat.enc u)),(9,(gV l 4 a.1)),(10,(gV j 1 a.2.1)),(11,(vI a.2.2))]:SL_)) p.1 p.2.1 p.2.2)) (λs=>iM g u s) â á ((([]:List Play),([]:List Int),0),Þ,ß) Ä rfl (aK rfl) ?_ ?_
   ·rintro ⟨R,a,l,j⟩ H
    dsimp only at H
    cases R with
    | zero=>cases H
    | succ R =>
     obtain ⟨Ê,n,H⟩:=bind_some H
     unfold iM at n
     refine ak (ai (aa (vI a.2.2) (aa (vL Log_.enc g) (bQ Ja rfl wz (aa (vB (decide (a.2.2<(g.length:Int)))) (af ?_))))))
     rcases aj n with⟨X,n⟩|⟨X,n⟩
     ·refine aA rfl X (ax (ak (aQ (ak (ai (aa (vI a.2.2) (aa (vI a.2.2) (af ?_))))))))
      obtain ⟨ã,Å,n⟩:=bind_some n
      obtain ⟨à,Å⟩:=bW Å
      refine dY (λ(e:Int)=>[(0,(vL Log_.enc g)),(1,(vL Beat.enc u)),(9,(gV l 4 a.1)),(10,(gV j 1 a.2.1)),(11,(vI a.2.2)),(12,(vI e))]) (λ(e:Int)=>[(l,gB 4 Play.enc a.1),(j,gB 1 eI a.2.1)]) (λ(T:Nat)=>(λ(e:Int)=>[(0,(vL Log_.enc g)),(1,(vL Beat.enc u)),(9,(gV l 4 a.1)),(10,(gV j 1 a.2.1)),(11,(vI a.2.2)),(12,(vI e))])) (λs=>iO g a s) ã à a.2.2 Å rfl (aK rfl) ?_ ?_
      ·rintro ⟨T,e⟩ I
       dsimp only at I
       cases T with
       | zero=>cases I
       | succ T =>
        obtain ⟨Ê,F,I⟩:=bind_some I
        unfold iO at F
        refine ak (ak ?_)
        obtain ⟨å,w,F⟩:=bind_some F
        refine aU [(0,(vL Log_.enc g)),(1,(vL Beat.enc u)),(9,(gV l 4 a.1)),(10,(gV j 1 a.2.1)),(11,(vI a.2.2)),(12,(vI e)),(53,(vB å))] [(l,gB 4 Play.enc a.1),(j,gB 1 eI a.2.1)] ?_ ?_
        ·refine bv (aa (vI e) (aa (vL Log_.enc g) (bQ Ja rfl wz (aa (vB (decide (e<(g.length:Int)))) ?_))))
         rcases aj w with⟨Y,w⟩|⟨Y,w⟩
         ·refine aB rfl Y wz (aL (vL Log_.enc g) wa rfl (aL (vI e) wa rfl ?_))
          obtain ⟨B,Ø,w⟩:=bind_some w
          refine dI Au rfl rfl Ø rfl wa (lQ ut rfl [.str B.Player,.str B.Item,.int .i64 B.No,.int .i64 B.Clock,.int .i64 B.Long,.str B.Sum] rfl rfl wa (bH sz9 ag9 rfl (vS B.Player) rfl wa (aL (vL Log_.enc g) wa rfl (aL (vI a.2.2) wa rfl ?_))))
          obtain ⟨C,Ù,w⟩:=bind_some w
          refine dI Au rfl rfl Ù rfl wa (lQ ut rfl [.str C.Player,.str C.Item,.int .i64 C.No,.int .i64 C.Clock,.int .i64 C.Long,.str C.Sum] rfl rfl wa (bH sz9 ag9 rfl (vS C.Player) rfl wa (aL (vB (sEq B.Player C.Player)) wa rfl (aa (vB (sEq B.Player C.Player)) (af ?_)))))
          obtain rfl:=ae w
          exact cu
         ·refine aB rfl Y wz (ah (ah (ah (ah (ah (ah (ah (ah (ah (ah (ah (aa (vB false) (af ?_)))))))))))))
          obtain rfl:=ae w
          exact cu
        ·rintro ⟨⟩ _ W Q y z
         refine aR _ y z ?_
         rcases aj F with⟨Z,F⟩|⟨Z,F⟩
         ·refine aA rfl Z (ax (aQ (au (aa (vI e) (aa (vI (w64 (e+1))) (aa (vI (w64 (e+1))) (af ?_)))))))
          obtain rfl:=ae F
          exact aZ (T,(w64 (e+1))) I (ls_ _) rfl (aK rfl)
         ·refine ay rfl Z (aY ?_)
          obtain rfl:=ae F
          obtain rfl:=ae I
          exact aW (e) rfl rfl (aK rfl)
      ·rintro e O W Q y z
       subst O
       refine aR _ y z (ai (aa (vL Log_.enc g) (aa (vI a.2.2) (aa (vI e) (aa (vL Beat.enc u) ?_)))))
       obtain ⟨m,Ó,n⟩:=bind_some n
       refine aG (AA Ó) rfl hb31 rfl rfl rfl rfl wz (aa (.tup [(vL Placed.enc m.1),(vL eI m.2)]) (aa (vL Placed.enc m.1) (aa (vL eI m.2) (aa (vL Placed.enc m.1) (aa (vL eI m.2) (af (ai (aa (gV j 1 a.2.1) (aa (vL eI m.2) ?_)))))))))
       obtain ⟨Ç,Û,n⟩:=bind_some n
       refine jr 0 il ft (i:=1) Bh Bh sz3 z3 rfl (by decide) by3 (by decide) (λ_=>rfl) rfl rfl rfl Û wz (λÌ=>aa (gV Ì 1 Ç) (af (ai (aa (vI 0) (af (ai (aa (vL Placed.enc m.1) (bQ un94 rfl wz (aa (vI 0) (af ?_))))))))))
       obtain ⟨ä,Æ,n⟩:=bind_some n
       obtain ⟨Ë,Æ⟩:=bn Æ
       refine fV (σ:=(List Play)×(List Int)×Int) (N:=Nm×Nm) (λp=>(λ(b:(List Play)×(List Int)×Int) (q:Nm) (t:Nm)=>([(0,(vL Log_.enc g)),(1,(vL Beat.enc u)),(9,(gV q 4 b.1)),(10,(gV t 1 b.2.1)),(12,(vI e))]:SL_)) p.1 p.2.1 p.2.2) (λp=>(λ(b:(List Play)×(List Int)×Int) (q:Nm) (t:Nm)=>([(q,gB 4 Play.enc b.1),(t,gB 1 eI b.2.1)]:Hp)) p.1 p.2.1 p.2.2) (λ(A:Nat)=>(λp=>(λ(b:(List Play)×(List Int)×Int) (q:Nm) (t:Nm)=>([(0,(vL Log_.enc g)),(1,(vL Beat.enc u)),(9,(gV q 4 b.1)),(10,(gV t 1 b.2.1)),(12,(vI e)),(15,(vI b.2.2)),(67,(vL Placed.enc m.1)),(68,(vI (m.1.length:Int))),(69,(vI (A:Int)))]:SL_)) p.1 p.2.1 p.2.2)) (λk x s=>kP g k x s) ä m.1 ((a.1,Ç,0),l,Ì) Æ rfl (aK rfl) ?_ ?_
       ·rintro ⟨A,U,b,q,t⟩ ⟨J,E⟩
        dsimp only at J E
        cases U with
        | nil =>
         obtain rfl:=ae J
         refine ai (aa (vB (decide ((A:Int)<(m.1.length:Int)))) (af ?_))
         refine ak (ay rfl (drop_nil E) (aY ?_))
         exact aW (b,q,t) rfl rfl (aK rfl)
        | cons c U =>
         obtain ⟨Ê,o,J⟩:=bind_some J
         refine ai (aa (vB (decide ((A:Int)<(m.1.length:Int)))) (af ?_))
         refine ak (aA rfl (bE E) (ax ?_))
         unfold kP at o
         refine ak (aQ (ai (dI IQ rfl rfl (bN E) rfl wz (bH F7 Q8 rfl (.d (.agg (Placed.enc c))) rfl wz (dz 0 (.inl rfl) z98 rfl wz (λÍ=>gp 0 il ft 2 F7 rfl rfl [(vI c.f_i),(vI c.f_at)] rfl wz (af (ai (aa (vL Log_.enc g) (aI Qw rfl 0 rfl wz (aH 0 2 il ft sz3 ag3 rfl rfl (vI c.f_i) rfl wz ?_)))))))))))
         obtain ⟨f,Ú,o⟩:=bind_some o
         refine dI Au rfl rfl Ú rfl wz (bH zR IV rfl (.d (.agg (Log_.enc f))) rfl wz (dz 0 (.inl rfl) z44 rfl wz (λÎ=>gp 0 il ft 3 zR rfl rfl (Log_.v f) rfl wz (af (ak (bv (aI Jq rfl 1 rfl wz (aH 1 2 (.inr (by kernel_rfl)) (λ_ _ ag=>trivial) sz3 ag3 rfl rfl (vI c.f_at) rfl wz (aa (vI b.2.2) (qm (vI (jc c.f_at b.2.2)) rfl (.inr rfl) wz (aI Jq rfl 1 rfl wz (aH 5 2 (.inr (by kernel_rfl)) (λ_ _ ag=>⟨.inl ⟨rfl,rfl⟩,trivial⟩) sz3 ag3 rfl rfl (vI c.f_at) rfl wz (aI Ml rfl 4 rfl wz (aH 7 3 (.inr (by kernel_rfl)) (λ_ _ ag=>⟨.inl ⟨rfl,rfl⟩,⟨.inl ⟨rfl,rfl⟩,trivial⟩⟩) sz3 ag3 rfl rfl (vI f.Long) rfl wz (aa (vI (w64 (c.f_at+f.Long))) (aa (vI (jc c.f_at b.2.2)) (aa (vI (w64 (c.f_at+f.Long))) (af (ak (ak ?_))))))))))))))))))))
         obtain ⟨æ,G,o⟩:=bind_some o
         refine aU [(0,(vL Log_.enc g)),(1,(vL Beat.enc u)),(9,(gV q 4 b.1)),(10,(gV t 1 b.2.1)),(12,(vI e)),(15,(vI b.2.2)),(17,(.ref Í 0 0)),(18,(.ref Î 0 0)),(19,(vI (jc c.f_at b.2.2))),(20,(vI (w64 (c.f_at+f.Long)))),(67,(vL Placed.enc m.1)),(68,(vI (m.1.length:Int))),(69,(vI (A:Int))),(94,(vB æ))] [(q,gB 4 Play.enc b.1),(t,gB 1 eI b.2.1),(Í,some (.cells 2 [(vI c.f_i),(vI c.f_at)])),(Î,some (.cells 6 (Log_.v f)))] ?_ ?_
         ·refine au (aa (vI (jc c.f_at b.2.2)) (aa (vI (w64 (c.f_at+f.Long))) (aa (vB (decide ((jc c.f_at b.2.2)>=(w64 (c.f_at+f.Long))))) ?_)))
          rcases aj G with⟨Á,G⟩|⟨Á,G⟩
          ·refine aB rfl Á wz (ah (ah (ah (aa (vB true) (af ?_)))))
           obtain rfl:=ae G
           exact cu
          ·refine aB rfl Á wz (aL (vI (jc c.f_at b.2.2)) wa rfl ?_)
           obtain ⟨Ñ,Ô,G⟩:=bind_some G
           refine aG (gD Ô) rfl Ib rfl rfl rfl rfl wa (aL (vB (!Ñ)) wa rfl (aa (vB (!Ñ)) (af ?_)))
           obtain rfl:=ae G
           exact cu
         ·rintro ⟨⟩ _ W Q y z
          refine aR _ y z ?_
          rcases aj o with⟨Â,o⟩|⟨Â,o⟩
          ·refine aA rfl Â (ai (aa (gV t 1 b.2.1) (aI Qw rfl 0 rfl wz (aH 0 2 il ft sz3 ag3 rfl rfl (vI c.f_i) rfl wz (gL (([c.f_i]:List Int).map eI) ic AV rfl rfl rfl rfl rfl wz ?_)))))
           obtain ⟨È,Ü,o⟩:=bind_some o
           refine jr 0 il ft (i:=1) Bh Bh sz3 z3 rfl (by decide) by3 (by decide) (λ_=>rfl) rfl rfl rfl Ü wz (λÏ=>aa (gV Ï 1 È) (af (aY (au (dS (bC E Ë) wz rfl (aa (vI ((A+1:Nat):Int)) (af ?_)))))))
           obtain rfl:=ae o
           exact aZ (A+1,U,(b.1,È,b.2.2),q,Ï) ⟨J,aV E⟩ (ls_ _) rfl (aK rfl)
          ·refine ay rfl Â (ax (ai (aa (gV q 4 b.1) (aI ut rfl 0 rfl wz (aH 0 3 il ft sz9 ag9 rfl rfl (vS f.Player) rfl wz (aI LG rfl 1 rfl wz (aH 0 3 il ft sz9 ag9 rfl rfl (vS f.Item) rfl wz (aa (vI (jc c.f_at b.2.2)) (aa (vI (w64 (c.f_at+f.Long))) (aa (vI (jc c.f_at b.2.2)) (aa (vI (w64 ((w64 (c.f_at+f.Long))-(jc c.f_at b.2.2)))) (aL (.d (.agg (Play.enc (⟨f.Player,f.Item,(jc c.f_at b.2.2),(w64 ((w64 (c.f_at+f.Long))-(jc c.f_at b.2.2)))⟩:Play)))) wz (by kernel_rfl) (gL (([(⟨f.Player,f.Item,(jc c.f_at b.2.2),(w64 ((w64 (c.f_at+f.Long))-(jc c.f_at b.2.2)))⟩:Play)]:List Play).map Play.enc) QX ez47 rfl rfl rfl rfl rfl wz ?_)))))))))))))
           obtain ⟨É,Ý,o⟩:=bind_some o
           refine jr 0 il ft (i:=0) el47 el47 QU z51 rfl (by decide) by51 (by decide) (λ_=>rfl) rfl rfl rfl Ý wz (λÐ=>aa (gV Ð 4 É) (af (au (aa (vI (w64 (c.f_at+f.Long))) (aa (vI (w64 (c.f_at+f.Long))) (af (au (dS (bC E Ë) wz rfl (aa (vI ((A+1:Nat):Int)) (af ?_))))))))))
           obtain rfl:=ae o
           exact aZ (A+1,U,(É,b.2.1,(w64 (c.f_at+f.Long))),Ð,t) ⟨J,aV E⟩ (ls_ _) rfl (aK rfl)
       ·rintro ⟨b,q,t⟩ O W Q y z
        subst O
        refine aR _ y z (au (aa (vI e) (aa (vI e) (af ?_))))
        obtain rfl:=ae n
        exact aZ (R,(b.1,b.2.1,e),q,t) H (ls_ _) rfl (aK rfl)
     ·refine ay rfl X (aY ?_)
      obtain rfl:=ae n
      obtain rfl:=ae H
      exact aW ((a.1,a.2.1,a.2.2),l,j) rfl rfl (aK rfl)
   ·rintro ⟨a,l,j⟩ O W Q y z
    subst O
    refine aR _ y z (ai (aa (gV j 1 a.2.1) ?_))
    obtain ⟨M,Ö,h⟩:=bind_some h
    obtain ⟨_,P,h⟩:=bind_some h
    replace P:=lH P
    refine qb 0 [] 1 0 il ft (ni Ö) rfl hb33 rfl rfl rfl (by kernel_rfl) rfl (.inl rfl) rfl (by kernel_rfl) (by kernel_rfl) (by kernel_rfl) (by kernel_rfl) rfl (by decide) (by kernel_rfl) q8 (A9 P) wz ([(l,gB 4 Play.enc a.1),(j,gB 1 eI M)]:Hp) (by kernel_rfl) (fK (v':=(gV j 1 M)) 10 rfl (kW P.symm) (fK (v':=(gV j 1 M)) 114 rfl (kW P.symm) (af (ai (aa (gV l 4 a.1) (aa (gV j 1 M) (aa (gV l 4 a.1) (aa (gV j 1 M) (aa (vI 0) (af (fQ 1 rfl (dx 5 1 rfl rfl (dx 10 1 rfl rfl (dx 114 1 rfl rfl (dx 117 1 rfl rfl ?_)))))))))))))))
    obtain rfl:=ae h
    exact aC (QY (outs:=([]:List Box)) [dl eI M,.int .i64 0] (.inr rfl) 0 rfl ⟨rfl,⟨rfl,trivial⟩⟩ rfl rfl (by kernel_rfl) (by kernel_rfl))
theorem xq {C:(List Campaign)} {c:(List Play)} {i:Int} {r:Int} (a:jO C c i=some r) :
  FnM Tryz.prog 34 [(vL Campaign.enc C),(vL Play.enc c),(vI i)] [] (vI r) []:=by
 refine FnM.of_wH ⟨Tryz.prog,47,[],[]⟩ rfl Tryz.func34 rfl rfl (lb_ rfl) (by kernel_rfl) ?_
 unfold jO at a
 refine ai (aa (vI 0) (af (ak (ai (aa (vL Campaign.enc C) ?_)))))
 obtain ⟨m,Q,a⟩:=bind_some a
 refine aG (jK Q) rfl hb38 rfl rfl rfl rfl wz (aa (vI m) (af (ai (aa (vI m) (aa (vB (m != 0)) (af ?_))))))
 rcases aj a with⟨z,a⟩|⟨z,a⟩
 ·refine aA rfl z (ai (aa (vI m) (aa (vI m) (af ?_))))
  obtain rfl:=ae a
  exact aC (aO [(vI m)] ⟨rfl,trivial⟩)
 ·refine ay rfl z (ax (ak (ai (aa (vL Play.enc c) (bQ RG rfl wz (aa (vB (decide ((c.length:Int)>3000))) (af ?_)))))))
  rcases aj a with⟨A,a⟩|⟨A,a⟩
  ·refine aA rfl A (ai (aa (vI 2) (af ?_)))
   obtain rfl:=ae a
   exact aC (aO [(vI 2)] ⟨rfl,trivial⟩)
  ·refine ay rfl A (ax (ak (ai (aa (vL Play.enc c) (bQ RG rfl wz (aa (vI 0) (af ?_)))))))
   obtain ⟨R,B,a⟩:=bind_some a
   obtain ⟨J,B⟩:=bn B
   refine dB (λ(p:Unit)=>[(2,(vI i))]) (λ(p:Unit)=>[]) (λ(g:Nat)=>(λ(p:Unit)=>[(2,(vI i)),(18,(vL Play.enc c)),(19,(vI (c.length:Int))),(20,(vI (g:Int)))])) (λk x s=>iQ k x s) R c () B rfl (aK rfl) ?_ ?_
   ·rintro ⟨g,E,p⟩ ⟨j,l⟩
    dsimp only at j l
    cases E with
    | nil =>
     obtain rfl:=ae j
     refine ai (aa (vB (decide ((g:Int)<(c.length:Int)))) (af ?_))
     refine ak (ay rfl (drop_nil l) (aY ?_))
     exact aW (p) rfl rfl (aK rfl)
    | cons h E =>
     obtain ⟨À,b,j⟩:=bind_some j
     refine ai (aa (vB (decide ((g:Int)<(c.length:Int)))) (af ?_))
     refine ak (aA rfl (bE l) (ax ?_))
     unfold iQ at b
     refine ak (aQ (ai (dI QX rfl rfl (bN l) rfl wz (bH QU ag51 rfl (.d (.agg (Play.enc h))) rfl wz (dz 0 (.inl rfl) z51 rfl wz (λF=>gp 0 il ft 0 QU rfl rfl (Play.v h) rfl wz (af (ak (ak ?_)))))))))
     obtain ⟨Y,e,b⟩:=bind_some b
     refine aU [(2,(vI i)),(9,(.ref F 0 0)),(18,(vL Play.enc c)),(19,(vI (c.length:Int))),(20,(vI (g:Int))),(33,(vB Y))] [(F,some (.cells 4 (Play.v h)))] ?_ ?_
     ·refine au (aI pl51_0 rfl 0 rfl wz (aH 0 0 il ft sz9 ag9 rfl rfl (vS h.Player) rfl wz ?_))
      obtain ⟨T,L,e⟩:=bind_some e
      refine aG (gy L) rfl CY rfl rfl rfl rfl wz (aa (vB (!T)) ?_)
      rcases aj e with⟨q,e⟩|⟨q,e⟩
      ·refine aB rfl q wz (ah (ah (ah (ah (aa (vB true) (af ?_))))))
       obtain rfl:=ae e
       exact cu
      ·refine aB rfl q wz (aI PY rfl 1 rfl wa (aH 0 0 il ft sz9 ag9 rfl rfl (vS h.Item) rfl wa ?_))
       obtain ⟨H,M,e⟩:=bind_some e
       refine aG (gy M) rfl CY rfl rfl rfl rfl wa (aL (vB (!H)) wa rfl (aa (vB (!H)) (af ?_)))
       obtain rfl:=ae e
       exact cu
     ·rintro ⟨⟩ _ I G n o
      refine aR _ n o ?_
      rcases aj b with⟨t,b⟩|⟨t,b⟩
      ·refine aA rfl t (ai (aa (vI 5) (af ?_)))
       obtain rfl:=ae b
       obtain rfl:=ae j
       obtain rfl:=ae a
       exact aC (aO [(vI 5)] ⟨rfl,trivial⟩)
      ·refine ay rfl t (ax (ak ?_))
       obtain ⟨Z,f,b⟩:=bind_some b
       refine aU [(2,(vI i)),(18,(vL Play.enc c)),(19,(vI (c.length:Int))),(20,(vI (g:Int))),(42,(vB Z))] [(F,some (.cells 4 (Play.v h)))] ?_ ?_
       ·refine au (aI Bp rfl 2 rfl wz (aH 0 0 il ft sz3 ag3 rfl rfl (vI h.At) rfl wz ?_))
        obtain ⟨U,N,f⟩:=bind_some f
        refine aG (gD N) rfl Ib rfl rfl rfl rfl wz (aa (vB (!U)) ?_)
        rcases aj f with⟨u,f⟩|⟨u,f⟩
        ·refine aB rfl u wz (ah (ah (ah (aa (vB true) (af ?_)))))
         obtain rfl:=ae f
         exact cu
        ·refine aB rfl u wz (aI pl51_3 rfl 3 rfl wa (aH 0 0 il ft sz3 ag3 rfl rfl (vI h.Long) rfl wa ?_))
         obtain ⟨W,O,f⟩:=bind_some f
         refine aG (bA O) rfl rR rfl rfl rfl rfl wa (aa (vB W) (af ?_))
         obtain rfl:=ae f
         exact cu
       ·rintro ⟨⟩ _ I G n o
        refine aR _ n o ?_
        rcases aj b with⟨w,b⟩|⟨w,b⟩
        ·refine aA rfl w (ai (aa (vI 1) (af ?_)))
         obtain rfl:=ae b
         obtain rfl:=ae j
         obtain rfl:=ae a
         exact aC (aO [(vI 1)] ⟨rfl,trivial⟩)
        ·refine ay rfl w (ax (au (dS (bC l J) wz rfl (aa (vI ((g+1:Nat):Int)) (af ?_)))))
         obtain rfl:=ae b
         exact aZ (g+1,E,()) ⟨j,aV l⟩ (ls_ _) rfl (aK rfl)
   ·rintro p K I G n o
    subst K
    refine aR _ n o (ak (ai (aa (vI i) ?_)))
    obtain ⟨X,P,a⟩:=bind_some a
    refine aG (gD P) rfl Ib rfl rfl rfl rfl wz (aa (vB (!X)) (af ?_))
    rcases aj a with⟨y,a⟩|⟨y,a⟩
    ·refine aA rfl y (ai (aa (vI 1) (af ?_)))
     obtain rfl:=ae a
     exact aC (aO [(vI 1)] ⟨rfl,trivial⟩)
    ·refine ay rfl y (ax (ai (aa (vI 0) (af ?_))))
     obtain rfl:=ae a
     exact aC (aO [(vI 0)] ⟨rfl,trivial⟩)
theorem Bg {f:(List Campaign)} {e:(List Play)} {h:Int} {r:(List Pace)} (G:nL f e h=some r) :
  FnM Tryz.prog 35 [(vL Campaign.enc f),(vL Play.enc e),(vI h)] [] (vL Pace.enc r) []:=by
 refine FnM.of_wH ⟨Tryz.prog,69,[],[]⟩ rfl Tryz.func35 rfl rfl (lb_ rfl) (by kernel_rfl) ?_
 unfold nL at G
 refine ai (aa .nil (af (ai (aa .nil (af (ak (ai (aa (vL Campaign.enc f) (bQ I6 rfl wz (aa (vI 0) (af (jJ (λÄ => ?_)))))))))))))
 obtain ⟨Å,M,G⟩:=bind_some G
 obtain ⟨Á,M⟩:=bn M
 refine fV (σ:=(List Pace)) (N:=Nm) (λp=>(λ(b:List Pace) (c:Nm)=>([(7,(gV c 3 b))]:SL_)) p.1 p.2) (λp=>(λ(b:List Pace) (c:Nm)=>([(c,gB 3 Pace.enc b)]:Hp)) p.1 p.2) (λ(m:Nat)=>(λp=>(λ(b:List Pace) (c:Nm)=>([(1,(vL Play.enc e)),(2,(vI h)),(7,(gV c 3 b)),(13,(vL Campaign.enc f)),(14,(vI (f.length:Int))),(15,(vI (m:Int)))]:SL_)) p.1 p.2)) (λk x s=>ng h e k x s) Å f (([]:List Pace),Ä) M rfl (aK rfl) ?_ ?_
 ·rintro ⟨m,R,b,c⟩ ⟨C,z⟩
  dsimp only at C z
  cases R with
  | nil =>
   obtain rfl:=ae C
   refine ai (aa (vB (decide ((m:Int)<(f.length:Int)))) (af ?_))
   refine ak (ay rfl (drop_nil z) (aY ?_))
   exact aW (b,c) rfl rfl (aK rfl)
  | cons a R =>
   obtain ⟨Z,n,C⟩:=bind_some C
   refine ai (aa (vB (decide ((m:Int)<(f.length:Int)))) (af ?_))
   refine ak (aA rfl (bE z) (ax ?_))
   unfold ng at n
   refine ak (aQ (ai (dI F8 rfl rfl (bN z) rfl wz (bH wQ FM rfl (.d (.agg (Campaign.enc a))) rfl wz (dz 0 (.inl rfl) z58 rfl wz (λB=>gp 0 il ft 1 wQ rfl rfl (Campaign.v a) rfl wz (af (ak (bv (aI Bt rfl 0 rfl wz (aH 1 1 (.inr (by kernel_rfl)) (λ_ _ ag=>trivial) sz9 ag9 rfl rfl (vS a.Key) rfl wz (aH 2 1 (.inr (by kernel_rfl)) (λ_ _ ag=>⟨.inl ⟨rfl,rfl⟩,trivial⟩) wQ FM rfl rfl (.d (.agg (Campaign.enc a))) rfl wz (aa (vI h) ?_)))))))))))))
   obtain ⟨q,Â,n⟩:=bind_some n
   refine aG (xW Â) rfl hb44 rfl rfl rfl rfl wz (aL (.d (.agg (Pace.enc (⟨a.Key,q,0⟩:Pace)))) wz (by kernel_rfl) (dz 6 (.inr (by kernel_rfl)) z56 rfl wz (λw=>gp 7 (.inr (by kernel_rfl)) (λ_ _ ag=>⟨.inr (.inr (by kernel_rfl)),⟨.inr (.inr (by kernel_rfl)),⟨.inr (.inr (by kernel_rfl)),trivial⟩⟩⟩) 2 RF rfl rfl [(vS a.Key),(vI q),(vI 0)] rfl wz (af (ak (ai (aa (vL Play.enc e) (bQ RG rfl wz (aa (vI 0) (af ?_))))))))))
   obtain ⟨Æ,O,n⟩:=bind_some n
   obtain ⟨À,O⟩:=bn O
   refine dB (λ(l:Int)=>[(1,(vL Play.enc e)),(2,(vI h)),(7,(gV c 3 b)),(10,(.ref w 0 0)),(13,(vL Campaign.enc f)),(14,(vI (f.length:Int))),(15,(vI (m:Int)))]) (λ(l:Int)=>[(c,gB 3 Pace.enc b),(B,some (.cells 8 (Campaign.v a))),(w,some (.cells 3 [(vS a.Key),(vI q),(vI l)]))]) (λ(o:Nat)=>(λ(l:Int)=>[(1,(vL Play.enc e)),(2,(vI h)),(7,(gV c 3 b)),(9,(.ref B 0 0)),(10,(.ref w 0 0)),(13,(vL Campaign.enc f)),(14,(vI (f.length:Int))),(15,(vI (m:Int))),(25,(vL Play.enc e)),(26,(vI (e.length:Int))),(27,(vI (o:Int)))])) (λk x s=>kz a h k x s) Æ e 0 O rfl (aK rfl) ?_ ?_
   ·rintro ⟨o,Q,l⟩ ⟨E,y⟩
    dsimp only at E y
    cases Q with
    | nil =>
     obtain rfl:=ae E
     refine ai (aa (vB (decide ((o:Int)<(e.length:Int)))) (af ?_))
     refine ak (ay rfl (drop_nil y) (aY ?_))
     exact aW (l) rfl rfl (aK rfl)
    | cons g Q =>
     obtain ⟨Z,A,E⟩:=bind_some E
     refine ai (aa (vB (decide ((o:Int)<(e.length:Int)))) (af ?_))
     refine ak (aA rfl (bE y) (ax ?_))
     unfold kz at A
     refine ak (aQ (ai (dI QX rfl rfl (bN y) rfl wz (bH QU ag51 rfl (.d (.agg (Play.enc g))) rfl wz (dz 0 (.inl rfl) z51 rfl wz (λW=>gp 0 il ft 3 QU rfl rfl (Play.v g) rfl wz (af (ak ?_))))))))
     obtain ⟨Ç,j,A⟩:=bind_some A
     refine aU [(1,(vL Play.enc e)),(2,(vI h)),(7,(gV c 3 b)),(9,(.ref B 0 0)),(10,(.ref w 0 0)),(13,(vL Campaign.enc f)),(14,(vI (f.length:Int))),(15,(vI (m:Int))),(25,(vL Play.enc e)),(26,(vI (e.length:Int))),(27,(vI (o:Int))),(57,(vB Ç))] [(c,gB 3 Pace.enc b),(B,some (.cells 8 (Campaign.v a))),(w,some (.cells 3 [(vS a.Key),(vI q),(vI l)])),(W,some (.cells 4 (Play.v g)))] ?_ ?_
     ·refine au (aI PY rfl 1 rfl wz (aH 0 3 il ft sz9 ag9 rfl rfl (vS g.Item) rfl wz (aI Bt rfl 0 rfl wz (aH 0 1 il ft sz9 ag9 rfl rfl (vS a.Key) rfl wz (aa (vB (sEq g.Item a.Key)) ?_)))))
      rcases aj j with⟨I,j⟩|⟨I,j⟩
      ·refine aB rfl I wz (aI uB rfl 2 rfl wa (aI mg rfl 2 rfl wa (aH 0 1 il ft sz3 ag3 rfl rfl (vI a.Time.From) rfl wa (aI Bp rfl 2 rfl wa (aH 0 3 il ft sz3 ag3 rfl rfl (vI g.At) rfl wa (aL (vB (decide (a.Time.From<=g.At))) wa rfl (aa (vB (decide (a.Time.From<=g.At))) ?_)))))))
       rcases aj j with⟨J,j⟩|⟨J,j⟩
       ·refine aB rfl J wz (aI Bp rfl 2 rfl wa (aH 0 3 il ft sz3 ag3 rfl rfl (vI g.At) rfl wa (aI uB rfl 2 rfl wa (aI mI rfl 3 rfl wa (aH 0 1 il ft sz3 ag3 rfl rfl (vI a.Time.To) rfl wa (aL (vB (decide (g.At<a.Time.To))) wa rfl (aa (vB (decide (g.At<a.Time.To))) ?_)))))))
        rcases aj j with⟨K,j⟩|⟨K,j⟩
        ·refine aB rfl K wz (aI Bp rfl 2 rfl wa (aH 0 3 il ft sz3 ag3 rfl rfl (vI g.At) rfl wa (aL (vI h) wa rfl (aL (vB (decide (g.At<h))) wa rfl (aa (vB (decide (g.At<h))) (af ?_))))))
         obtain rfl:=ae j
         exact cu
        ·refine aB rfl K wz (ah (ah (ah (ah (aa (vB false) (af ?_))))))
         obtain rfl:=ae j
         exact cu
       ·refine aB rfl J wz (ah (ah (ah (ah (ah (ah (aa (vB false) (aa (vB false) (ah (ah (ah (ah (aa (vB false) (af ?_))))))))))))))
        obtain rfl:=ae j
        exact cu
      ·refine aB rfl I wz (ah (ah (ah (ah (ah (ah (aa (vB false) (aa (vB false) (ah (ah (ah (ah (ah (ah (aa (vB false) (aa (vB false) (ah (ah (ah (ah (aa (vB false) (af ?_))))))))))))))))))))))
       obtain rfl:=ae j
       exact cu
     ·rintro ⟨⟩ _ T H t u
      refine aR _ t u ?_
      obtain ⟨Y,F,A⟩:=bind_some A
      refine aU [(1,(vL Play.enc e)),(2,(vI h)),(7,(gV c 3 b)),(9,(.ref B 0 0)),(10,(.ref w 0 0)),(13,(vL Campaign.enc f)),(14,(vI (f.length:Int))),(15,(vI (m:Int))),(25,(vL Play.enc e)),(26,(vI (e.length:Int))),(27,(vI (o:Int)))] [(c,gB 3 Pace.enc b),(B,some (.cells 8 (Campaign.v a))),(w,some (.cells 3 [(vS a.Key),(vI q),(vI Y)])),(W,some (.cells 4 (Play.v g)))] ?_ ?_
      ·rcases aj F with⟨L,F⟩|⟨L,F⟩
       ·refine aA rfl L (au (aI MJ rfl 2 rfl wz (aH 0 2 il ft sz3 ag3 rfl rfl (vI l) rfl wz (aa (vI (w64 (l+1))) (aI MJ rfl 2 rfl wz (gp 0 il ft 2 sz3 rfl rfl [(vS a.Key),(vI q),(vI (w64 (l+1)))] rfl wz (af ?_)))))))
        obtain rfl:=ae F
        exact cu
       ·refine ay rfl L (ax ?_)
        obtain rfl:=ae F
        exact cu
      ·rintro ⟨⟩ _ T H t u
       refine aR _ t u (au (dS (bC y À) wz rfl (aa (vI ((o+1:Nat):Int)) (af ?_))))
       obtain rfl:=ae A
       exact aZ (o+1,Q,Y) ⟨E,aV y⟩ (ls_ _) rfl (aK rfl)
   ·rintro l P T H t u
    subst P
    refine aR _ t u (au (aa (gV c 3 b) (aH 0 2 il ft RF ag56 rfl rfl (.d (.agg (Pace.enc (⟨a.Key,q,l⟩:Pace)))) rfl wz (gL (([(⟨a.Key,q,l⟩:Pace)]:List Pace).map Pace.enc) es52 ez52 rfl rfl rfl rfl rfl wz ?_))))
    obtain ⟨U,Ã,n⟩:=bind_some n
    refine jr 0 il ft (i:=0) el52 el52 RF z56 rfl (by decide) by56 (by decide) (λ_=>rfl) rfl rfl rfl Ã wz (λX=>aa (gV X 3 U) (af (au (dS (bC z Á) wz rfl (aa (vI ((m+1:Nat):Int)) (af ?_))))))
    obtain rfl:=ae n
    exact aZ (m+1,R,U,X) ⟨C,aV z⟩ (ls_ _) rfl (aK rfl)
 ·rintro ⟨b,c⟩ P T H t u
  subst P
  refine aR _ t u (ai (aa (gV c 3 b) (aa (gV c 3 b) (af (fQ 0 rfl (dx 6 0 rfl rfl (dx 7 0 rfl rfl (dx 68 0 rfl rfl ?_))))))))
  obtain rfl:=ae G
  exact aC (aO [(vL Pace.enc b)] ⟨rfl,trivial⟩)
theorem BJ {d:(List Campaign)} {e:(List Play)} {c:Int} {r:(List Pace)×Int} (a:nH d e c=some r) :
  FnM Tryz.prog 10 [(vL Campaign.enc d),(vL Play.enc e),(vI c)] [] (.tup [(vL Pace.enc r.1),(vI r.2)]) []:=by
 refine FnM.of_wH ⟨Tryz.prog,20,[],[]⟩ rfl Tryz.func10 rfl rfl (lb_ rfl) (by kernel_rfl) ?_
 unfold nH at a
 refine ai (aa .nil (aa (vI 0) (af (ak (ai (aa (vL Campaign.enc d) (aa (vL Play.enc e) (aa (vI c) ?_))))))))
 obtain ⟨b,h,a⟩:=bind_some a
 refine aG (xq h) rfl hb34 rfl rfl rfl rfl wz (aa (vI b) (af (ai (aa (vI b) (aa (vB (b != 0)) (af ?_))))))
 rcases aj a with⟨f,a⟩|⟨f,a⟩
 ·refine aA rfl f (ai (aa (vI b) (aa .nil (aa (vI b) (af ?_)))))
  obtain rfl:=ae a
  exact aC (aO [.nil,(vI b)] ⟨rfl,⟨rfl,trivial⟩⟩)
 ·refine ay rfl f (ax (ai (aa (vL Campaign.enc d) (aa (vL Play.enc e) (aa (vI c) ?_)))))
  obtain ⟨g,i,a⟩:=bind_some a
  refine aG (Bg i) rfl hb35 rfl rfl rfl rfl wz (aa (vL Pace.enc g) (aa (vI 0) (af ?_)))
  obtain rfl:=ae a
  exact aC (aO [(vL Pace.enc g),(vI 0)] ⟨rfl,⟨rfl,trivial⟩⟩)
theorem rD {Ì:(List Int)} {r:Bool} (b:iL Ì=some r) :
  FnM Tryz.prog 3 [(vL eI Ì)] [] (vB r) []:=by
 refine FnM.of_wH ⟨Tryz.prog,174,[],[]⟩ rfl Tryz.func3 rfl rfl (lb_ rfl) (by kernel_rfl) ?_
 unfold iL at b
 refine ai (aa (vB false) (af (ai (aa (vL eI Ì) (aL (.d (.agg (Stream.enc (⟨Ì,0⟩:Stream)))) wz (by kernel_rfl) (jU 0 (.inl rfl) [(vL eI Ì),(vI 0)] rfl rfl wz (λt=>aa (.ref t 0 0) (af (ai (aa (.ref t 0 0) ?_))))))))))
 obtain ⟨h,ú,b⟩:=bind_some b
 refine jF 0 [0] il ft (uP ú) rfl hb4 rfl (by kernel_rfl) (by kernel_rfl) (by kernel_rfl) (by kernel_rfl) (by kernel_rfl) (by kernel_rfl) (by kernel_rfl) (by decide) (by kernel_rfl) wz (vL Spot.enc h.1) (by kernel_rfl) ([(t,some (.cells 2 [(vL eI h.2.L),(vI h.2.f_at)]))]:Hp) (by kernel_rfl) (aa (.ref t 0 0) ?_)
 obtain ⟨a,þ,b⟩:=bind_some b
 refine jF 0 [0] il ft (rM þ) rfl hb5 rfl (by kernel_rfl) (by kernel_rfl) (by kernel_rfl) (by kernel_rfl) (by kernel_rfl) (by kernel_rfl) (by kernel_rfl) (by decide) (by kernel_rfl) wz (vL Campaign.enc a.1) (by kernel_rfl) ([(t,some (.cells 2 [(vL eI a.2.L),(vI a.2.f_at)]))]:Hp) (by kernel_rfl) (aa (vL Spot.enc h.1) (aa (vL Campaign.enc a.1) (af (ai (aa (vL Spot.enc h.1) (aa (vL Campaign.enc a.1) ?_))))))
 obtain ⟨e,ö,b⟩:=bind_some b
 refine aG (Dj ö) rfl hb6 rfl rfl rfl rfl wz (aa (.tup [(vL Share.enc e.1),(vI e.2)]) (aa (vL Share.enc e.1) (aa (vI e.2) (aa (vL Share.enc e.1) (aa (vI e.2) (af (ak (ai (aa (vI e.2) (aa (vB (e.2 != 0)) (af ?_)))))))))))
 rcases aj b with⟨Ò,b⟩|⟨Ò,b⟩
 ·refine aA rfl Ò (ak ?_)
  obtain ⟨ñ,X,b⟩:=bind_some b
  refine aU [(2,(vB ñ))] [(t,some (.cells 2 [(vL eI a.2.L),(vI a.2.f_at)]))] ?_ ?_
  ·refine au (aa (vI e.2) (aa (vB (e.2==12)) ?_))
   rcases aj X with⟨Õ,X⟩|⟨Õ,X⟩
   ·refine aB rfl Õ wz ?_
    obtain ⟨ï,ù,X⟩:=bind_some X
    refine aG (nu ù) rfl hb7 rfl rfl rfl rfl wa (aa (vB ï) (aa (vB ï) (af ?_)))
    obtain rfl:=ae X
    exact cu
   ·refine aB rfl Õ wz (ah (aa (vB false) (aa (vB false) (af ?_))))
    obtain rfl:=ae X
    exact cu
  ·rintro ⟨⟩ _ U P l m
   refine aR _ l m ?_
   obtain rfl:=ae b
   exact aC (aO [(vB ñ)] ⟨rfl,trivial⟩)
 ·refine ay rfl Ò (ax (ai (aa .nil (af (ak (ai (aa (vL Spot.enc h.1) (bQ Lr rfl wz (aa (vI 0) (af (jJ (λĆ => ?_))))))))))))
  obtain ⟨Ĉ,à,b⟩:=bind_some b
  obtain ⟨ó,à⟩:=bn à
  refine fV (σ:=(List Log_)) (N:=Nm) (λp=>(λ(j:List Log_) (u:Nm)=>([(5,(vL Campaign.enc a.1)),(8,(gV u 6 j))]:SL_)) p.1 p.2) (λp=>(λ(j:List Log_) (u:Nm)=>([(t,some (.cells 2 [(vL eI a.2.L),(vI a.2.f_at)])),(u,gB 6 Log_.enc j)]:Hp)) p.1 p.2) (λ(I:Nat)=>(λp=>(λ(j:List Log_) (u:Nm)=>([(5,(vL Campaign.enc a.1)),(6,(vL Share.enc e.1)),(8,(gV u 6 j)),(43,(vL Spot.enc h.1)),(44,(vI (h.1.length:Int))),(45,(vI (I:Int)))]:SL_)) p.1 p.2)) (λk x s=>cZ e k x s) Ĉ h.1 (([]:List Log_),Ć) à rfl (aK rfl) ?_ ?_
  ·rintro ⟨I,ä,j,u⟩ ⟨Â,À⟩
   dsimp only at Â À
   cases ä with
   | nil =>
    obtain rfl:=ae Â
    refine ai (aa (vB (decide ((I:Int)<(h.1.length:Int)))) (af ?_))
    refine ak (ay rfl (drop_nil À) (aY ?_))
    exact aW (j,u) rfl rfl (aK rfl)
   | cons B ä =>
    obtain ⟨Ï,G,Â⟩:=bind_some Â
    refine ai (aa (vB (decide ((I:Int)<(h.1.length:Int)))) (af ?_))
    refine ak (aA rfl (bE À) (ax ?_))
    unfold cZ at G
    refine ak (aQ (ai (dI LK rfl rfl (bN À) rfl wz (bH zA JJ rfl (.d (.agg (Spot.enc B))) rfl wz (dz 0 (.inl rfl) z40 rfl wz (λÅ=>gp 0 il ft 2 zA rfl rfl (Spot.v B) rfl wz (af (ai (aI El rfl 1 rfl wz (aI mg rfl 1 rfl wz (aH 0 2 il ft sz3 ag3 rfl rfl (vI B.Time.From) rfl wz (aa (vI B.Time.From) (af (ak (ai (aa (vL Share.enc e.1) (bQ un30 rfl wz (aa (vI 0) (af ?_)))))))))))))))))))
    obtain ⟨ĉ,á,G⟩:=bind_some G
    obtain ⟨ë,á⟩:=bn á
    refine fV (σ:=(List Log_)×Int) (N:=Nm) (λp=>(λ(n:(List Log_)×Int) (E:Nm)=>([(5,(vL Campaign.enc a.1)),(6,(vL Share.enc e.1)),(8,(gV E 6 n.1)),(10,(.ref Å 0 0)),(11,(vI n.2)),(43,(vL Spot.enc h.1)),(44,(vI (h.1.length:Int))),(45,(vI (I:Int)))]:SL_)) p.1 p.2) (λp=>(λ(n:(List Log_)×Int) (E:Nm)=>([(t,some (.cells 2 [(vL eI a.2.L),(vI a.2.f_at)])),(E,gB 6 Log_.enc n.1),(Å,some (.cells 5 (Spot.v B)))]:Hp)) p.1 p.2) (λ(J:Nat)=>(λp=>(λ(n:(List Log_)×Int) (E:Nm)=>([(5,(vL Campaign.enc a.1)),(6,(vL Share.enc e.1)),(8,(gV E 6 n.1)),(10,(.ref Å 0 0)),(11,(vI n.2)),(43,(vL Spot.enc h.1)),(44,(vI (h.1.length:Int))),(45,(vI (I:Int))),(52,(vL Share.enc e.1)),(53,(vI (e.1.length:Int))),(54,(vI (J:Int)))]:SL_)) p.1 p.2)) (λk x s=>dG B k x s) ĉ e.1 ((j,B.Time.From),u) á rfl (aK rfl) ?_ ?_
    ·rintro ⟨J,Ñ,n,E⟩ ⟨Ã,Q⟩
     dsimp only at Ã Q
     cases Ñ with
     | nil =>
      obtain rfl:=ae Ã
      refine ai (aa (vB (decide ((J:Int)<(e.1.length:Int)))) (af ?_))
      refine ak (ay rfl (drop_nil Q) (aY ?_))
      exact aW (n,E) rfl rfl (aK rfl)
     | cons w Ñ =>
      obtain ⟨Ï,T,Ã⟩:=bind_some Ã
      refine ai (aa (vB (decide ((J:Int)<(e.1.length:Int)))) (af ?_))
      refine ak (aA rfl (bE Q) (ax ?_))
      unfold dG at T
      refine ak (aQ (ai (dI es30 rfl rfl (bN Q) rfl wz (bH sz42 ag42 rfl (.d (.agg (Share.enc w))) rfl wz (dz 0 (.inl rfl) z42 rfl wz (λì=>gp 0 il ft 3 sz42 rfl rfl (Share.v w) rfl wz (af (ak (ai (aI pl42_1 rfl 1 rfl wz (aH 0 3 il ft sz9 ag9 rfl rfl (vS w.Spot) rfl wz (aI EB rfl 0 rfl wz (aH 0 2 il ft sz9 ag9 rfl rfl (vS B.Key) rfl wz (aa (vB (sNe w.Spot B.Key)) (af ?_)))))))))))))))
      rcases aj T with⟨Ö,T⟩|⟨Ö,T⟩
      ·refine aA rfl Ö (aY (au (dS (bC Q ë) wz rfl (aa (vI ((J+1:Nat):Int)) (af ?_)))))
       obtain rfl:=ae T
       exact aZ (J+1,Ñ,(n.1,n.2),E) ⟨Ã,aV Q⟩ (ls_ _) rfl (aK rfl)
      ·refine ay rfl Ö (ax (ai (aI pl42_2 rfl 2 rfl wz (aH 0 3 il ft sz3 ag3 rfl rfl (vI w.Many) rfl wz (aa (vI 0) (af ?_))))))
       obtain ⟨Ċ,â,T⟩:=bind_some T
       obtain ⟨ô,â⟩:=bn â
       refine fV (σ:=(List Log_)×Int) (N:=Nm) (λp=>(λ(f:(List Log_)×Int) (F:Nm)=>([(5,(vL Campaign.enc a.1)),(6,(vL Share.enc e.1)),(8,(gV F 6 f.1)),(10,(.ref Å 0 0)),(11,(vI f.2)),(43,(vL Spot.enc h.1)),(44,(vI (h.1.length:Int))),(45,(vI (I:Int))),(52,(vL Share.enc e.1)),(53,(vI (e.1.length:Int))),(54,(vI (J:Int)))]:SL_)) p.1 p.2) (λp=>(λ(f:(List Log_)×Int) (F:Nm)=>([(t,some (.cells 2 [(vL eI a.2.L),(vI a.2.f_at)])),(F,gB 6 Log_.enc f.1),(Å,some (.cells 5 (Spot.v B))),(ì,some (.cells 3 (Share.v w)))]:Hp)) p.1 p.2) (λ(Ä:Nat)=>(λp=>(λ(f:(List Log_)×Int) (F:Nm)=>([(5,(vL Campaign.enc a.1)),(6,(vL Share.enc e.1)),(8,(gV F 6 f.1)),(10,(.ref Å 0 0)),(11,(vI f.2)),(13,(.ref ì 0 0)),(43,(vL Spot.enc h.1)),(44,(vI (h.1.length:Int))),(45,(vI (I:Int))),(52,(vL Share.enc e.1)),(53,(vI (e.1.length:Int))),(54,(vI (J:Int))),(64,(vI w.Many)),(65,(vI (Ä:Int)))]:SL_)) p.1 p.2)) (λk x s=>dF w k x s) Ċ (List.range (w.Many).toNat) ((n.1,n.2),E) â rfl (aK rfl) ?_ ?_
       ·rintro ⟨Ä,å,f,F⟩ ⟨É,Ç⟩
        dsimp only at É Ç
        cases å with
        | nil =>
         obtain rfl:=ae É
         refine ai (aa (vB (decide ((Ä:Int)<w.Many))) (af ?_))
         refine ak (ay rfl (pM Ç) (aY ?_))
         exact aW (f,F) rfl rfl (aK rfl)
        | cons ď å =>
         obtain ⟨Ï,Ð,É⟩:=bind_some É
         refine ai (aa (vB (decide ((Ä:Int)<w.Many))) (af ?_))
         refine ak (aA rfl (ol Ç) (ax ?_))
         unfold dF at Ð
         refine ak (aQ (ai (aa (gV F 6 f.1) (aI pl42_0 rfl 0 rfl wz (aH 0 3 il ft sz9 ag9 rfl rfl (vS w.Campaign) rfl wz (aa (gV F 6 f.1) (zJ Ja rfl wz (aa (vI (w64 ((f.1.length:Int)+1))) (aa (vI f.2) (aa (vI (w64 (1000*f.2))) (aL (.d (.agg (Log_.enc (⟨(⟨#[112,97]⟩:ByteArray),w.Campaign,(w64 ((f.1.length:Int)+1)),(w64 (1000*f.2)),1,(⟨#[]⟩:ByteArray)⟩:Log_)))) wz (by kernel_rfl) (gL (([(⟨(⟨#[112,97]⟩:ByteArray),w.Campaign,(w64 ((f.1.length:Int)+1)),(w64 (1000*f.2)),1,(⟨#[]⟩:ByteArray)⟩:Log_)]:List Log_).map Log_.enc) Au ez35 rfl rfl rfl rfl rfl wz ?_))))))))))))
         obtain ⟨è,Ą,Ð⟩:=bind_some Ð
         refine jr 0 il ft (i:=1) el35 el35 zR z44 rfl (by decide) by44 (by decide) (λ_=>rfl) rfl rfl rfl Ą wz (λí=>aa (gV í 6 è) (af (au (aa (vI f.2) (aa (vI (w64 (f.2+1))) (aa (vI (w64 (f.2+1))) (af (au (dS (pO Ç ô) wz rfl (aa (vI ((Ä+1:Nat):Int)) (af ?_)))))))))))
         obtain rfl:=ae Ð
         exact aZ (Ä+1,å,(è,(w64 (f.2+1))),í) ⟨É,aV Ç⟩ (ls_ _) rfl (aK rfl)
       ·rintro ⟨f,F⟩ M U P l m
        subst M
        refine aR _ l m (au (dS (bC Q ë) wz rfl (aa (vI ((J+1:Nat):Int)) (af ?_))))
        obtain rfl:=ae T
        exact aZ (J+1,Ñ,(f.1,f.2),F) ⟨Ã,aV Q⟩ (ls_ _) rfl (aK rfl)
    ·rintro ⟨n,E⟩ M U P l m
     subst M
     refine aR _ l m (ai (aa (vI n.2) (aI El rfl 1 rfl wz (aI mI rfl 2 rfl wz (aH 0 2 il ft sz3 ag3 rfl rfl (vI B.Time.To) rfl wz (aa (vB (decide (n.2>B.Time.To))) (af ?_)))))))
     rcases aj G with⟨Ø,G⟩|⟨Ø,G⟩
     ·refine aA rfl Ø (ai ?_)
      obtain ⟨ð,û,G⟩:=bind_some G
      refine aG (nu û) rfl hb7 rfl rfl rfl rfl wz (aa (vB ð) (af ?_))
      obtain rfl:=ae G
      obtain rfl:=ae Â
      obtain rfl:=ae b
      exact aC (aO [(vB ð)] ⟨rfl,trivial⟩)
     ·refine ay rfl Ø (ax (au (dS (bC À ó) wz rfl (aa (vI ((I+1:Nat):Int)) (af ?_)))))
      obtain rfl:=ae G
      exact aZ (I+1,ä,n.1,E) ⟨Â,aV À⟩ (ls_ _) rfl (aK rfl)
  ·rintro ⟨j,u⟩ M U P l m
   subst M
   refine aR _ l m (ak (fQ 1 rfl (dx 8 1 rfl rfl (au (aa (vL Log_.enc j) ?_)))))
   obtain ⟨O,ü,b⟩:=bind_some b
   refine aG (Em ü) rfl hb8 rfl rfl rfl rfl wz (aa (.tup [(vL Log_.enc O.1),(vI O.2)]) (aa (vL Log_.enc O.1) (aa (vI O.2) (aa (vL Log_.enc O.1) (aa (vI O.2) (af (ai (aa (vL Log_.enc O.1) ?_))))))))
   obtain ⟨c,ý,b⟩:=bind_some b
   refine PK [dl eI c.2.1,.int .i64 c.2.2] [] (Df ý) rfl hb9 rfl (by kernel_rfl) (by kernel_rfl) (by kernel_rfl) (by kernel_rfl) (by kernel_rfl) rfl (by decide) (by kernel_rfl) wz ([(t,some (.cells 2 [(vL eI a.2.L),(vI a.2.f_at)])),(u,gF 6 Log_.enc j)]:Hp) (λ_=>by kernel_rfl) (λo=>aa (.tup [(gV o 4 c.1),(vL eI c.2.1),(vI c.2.2)]) (aa (gV o 4 c.1) (aa (vL eI c.2.1) (aa (vI c.2.2) (aa (gV o 4 c.1) (aa (vL eI c.2.1) (aa (vI c.2.2) (af (ak (ak ?_))))))))))
   obtain ⟨č,y,b⟩:=bind_some b
   refine aU [(5,(vL Campaign.enc a.1)),(15,(gV o 4 c.1)),(117,(vB č))] [(t,some (.cells 2 [(vL eI a.2.L),(vI a.2.f_at)])),(u,gF 6 Log_.enc j),(o,gB 4 Play.enc c.1)] ?_ ?_
   ·refine au (aa (vI O.2) (aa (vB (O.2 != 0)) ?_))
    rcases aj y with⟨Ù,y⟩|⟨Ù,y⟩
    ·refine aB rfl Ù wz (ah (ah (aa (vB true) (aa (vB true) (ah (ah (ah (aa (vB true) (aa (vB true) (ah (ah (ah (ah (ah (aa (vB true) (af ?_))))))))))))))))
     obtain rfl:=ae y
     exact cu
    ·refine aB rfl Ù wz (aL (vI c.2.2) wa rfl (aL (vB (c.2.2 != 0)) wa rfl (aa (vB (c.2.2 != 0)) ?_)))
     rcases aj y with⟨Ú,y⟩|⟨Ú,y⟩
     ·refine aB rfl Ú wz (ah (ah (ah (aa (vB true) (aa (vB true) (ah (ah (ah (ah (ah (aa (vB true) (af ?_))))))))))))
      obtain rfl:=ae y
      exact cu
     ·refine aB rfl Ú wz (aL (vL eI c.2.1) wa rfl (bQ ug rfl wa (aL (vB ((c.2.1.length:Int) != 0)) wa rfl (aa (vB ((c.2.1.length:Int) != 0)) ?_))))
      rcases aj y with⟨Û,y⟩|⟨Û,y⟩
      ·refine aB rfl Û wz (ah (ah (ah (ah (ah (aa (vB true) (af ?_)))))))
       obtain rfl:=ae y
       exact cu
      ·refine aB rfl Û wz (aL (gV o 4 c.1) wa rfl (zJ RG rfl wa (aL (vL Log_.enc j) wa rfl (bQ Ja rfl wa (aL (vB ((c.1.length:Int) != (j.length:Int))) wa rfl (aa (vB ((c.1.length:Int) != (j.length:Int))) (af ?_)))))))
       obtain rfl:=ae y
       exact cu
   ·rintro ⟨⟩ _ U P l m
    refine aR _ l m ?_
    rcases aj b with⟨Ü,b⟩|⟨Ü,b⟩
    ·refine aA rfl Ü (ai (aa (vB false) (af ?_)))
     obtain rfl:=ae b
     exact aC (aO [(vB false)] ⟨rfl,trivial⟩)
    ·refine ay rfl Ü (ax (ak (ai (aa (gV o 4 c.1) (zJ RG rfl wz (aa (vI 0) (af ?_)))))))
     obtain ⟨ċ,ã,b⟩:=bind_some b
     obtain ⟨õ,ã⟩:=bn ã
     refine dB (λ(q:List Play)=>[(5,(vL Campaign.enc a.1)),(15,(gV o 4 q))]) (λ(q:List Play)=>[(t,some (.cells 2 [(vL eI a.2.L),(vI a.2.f_at)])),(u,gF 6 Log_.enc j),(o,gB 4 Play.enc q)]) (λ(A:Nat)=>(λ(q:List Play)=>[(5,(vL Campaign.enc a.1)),(15,(gV o 4 q)),(119,(vI (c.1.length:Int))),(120,(vI (A:Int)))])) (λk x s=>dH k x s) ċ (List.range ((c.1.length:Int)).toNat) c.1 ã rfl (aK rfl) ?_ ?_
     ·rintro ⟨A,æ,q⟩ ⟨Ê,È⟩
      dsimp only at Ê È
      cases æ with
      | nil =>
       obtain rfl:=ae Ê
       refine ai (aa (vB (decide ((A:Int)<(c.1.length:Int)))) (af ?_))
       refine ak (ay rfl (pM È) (aY ?_))
       exact aW (q) rfl rfl (aK rfl)
      | cons Đ æ =>
       obtain ⟨Ï,H,Ê⟩:=bind_some Ê
       refine ai (aa (vB (decide ((A:Int)<(c.1.length:Int)))) (af ?_))
       refine ak (aA rfl (ol È) (ax ?_))
       unfold dH at H
       refine ak (aQ (ai (aa (vI (A:Int)) (aa (vI (A:Int)) (af (au (aa (gV o 4 q) (aa (vI (A:Int)) ?_))))))))
       obtain ⟨_,é,H⟩:=bind_some H
       refine jv QX rfl rfl (fF é) (dC é) wz (aI Bp rfl 2 rfl wz ?_)
       obtain ⟨Y,Ă,H⟩:=bind_some H
       refine nU 0 2 il ft sz3 ag3 rfl rfl Ă (vI Y.At) rfl wz (aa (vI (w64 (Y.At.tdiv 1000))) ?_)
       obtain ⟨_,ê,H⟩:=bind_some H
       refine jv QX rfl rfl (fF ê) (dC ê) wz (aI Bp rfl 2 rfl wz ?_)
       obtain ⟨z,ă,H⟩:=bind_some H
       refine vC 0 il ft 2 sz3 rfl rfl ă (⟨z.Player,z.Item,(w64 (Y.At.tdiv 1000)),z.Long⟩:Play) rfl wz (fK (v':=(gV o 4 (q.set (0+((A:Int)).toNat) (⟨z.Player,z.Item,(w64 (Y.At.tdiv 1000)),z.Long⟩:Play)))) 15 rfl (kW (by simp)) (fK (v':=(gV o 4 (q.set (0+((A:Int)).toNat) (⟨z.Player,z.Item,(w64 (Y.At.tdiv 1000)),z.Long⟩:Play)))) 123 rfl (kW (by simp)) (af (au (dS (pO È õ) wz rfl (aa (vI ((A+1:Nat):Int)) (af ?_)))))))
       obtain rfl:=ae H
       exact aZ (A+1,æ,(q.set (0+((A:Int)).toNat) (⟨z.Player,z.Item,(w64 (Y.At.tdiv 1000)),z.Long⟩:Play))) ⟨Ê,aV È⟩ (ls_ _) rfl (aK rfl)
     ·rintro q M U P l m
      subst M
      refine aR _ l m (ak (fQ 2 rfl (dx 15 2 rfl rfl (au (aa (vL Campaign.enc a.1) (aa (vL Play.enc q) ?_))))))
      obtain ⟨g,ÿ,b⟩:=bind_some b
      refine aG (BJ ÿ) rfl hb10 rfl rfl rfl rfl wz (aa (.tup [(vL Pace.enc g.1),(vI g.2)]) (aa (vL Pace.enc g.1) (aa (vI g.2) (aa (vL Pace.enc g.1) (aa (vI g.2) (af (ak (ak ?_))))))))
      obtain ⟨Ď,Ë,b⟩:=bind_some b
      refine aU [(5,(vL Campaign.enc a.1)),(19,(vL Pace.enc g.1)),(146,(vB Ď))] [(t,some (.cells 2 [(vL eI a.2.L),(vI a.2.f_at)])),(u,gF 6 Log_.enc j),(o,gF 4 Play.enc q)] ?_ ?_
      ·refine au (aa (vI g.2) (aa (vB (g.2 != 0)) ?_))
       rcases aj Ë with⟨Ý,Ë⟩|⟨Ý,Ë⟩
       ·refine aB rfl Ý wz (ah (ah (ah (ah (ah (aa (vB true) (af ?_)))))))
        obtain rfl:=ae Ë
        exact cu
       ·refine aB rfl Ý wz (aL (vL Pace.enc g.1) wa rfl (bQ un52 rfl wa (aL (vL Campaign.enc a.1) wa rfl (bQ I6 rfl wa (aL (vB ((g.1.length:Int) != (a.1.length:Int))) wa rfl (aa (vB ((g.1.length:Int) != (a.1.length:Int))) (af ?_)))))))
        obtain rfl:=ae Ë
        exact cu
      ·rintro ⟨⟩ _ U P l m
       refine aR _ l m ?_
       rcases aj b with⟨Þ,b⟩|⟨Þ,b⟩
       ·refine aA rfl Þ (ai (aa (vB false) (af ?_)))
        obtain rfl:=ae b
        exact aC (aO [(vB false)] ⟨rfl,trivial⟩)
       ·refine ay rfl Þ (ax (ak (ai (aa (vL Pace.enc g.1) (bQ un52 rfl wz (aa (vI 0) (af ?_)))))))
        obtain ⟨ć,ß,b⟩:=bind_some b
        obtain ⟨ò,ß⟩:=bn ß
        refine dB (λ(Í:Unit)=>[]) (λ(Í:Unit)=>[(t,some (.cells 2 [(vL eI a.2.L),(vI a.2.f_at)])),(u,gF 6 Log_.enc j),(o,gF 4 Play.enc q)]) (λ(C:Nat)=>(λ(Í:Unit)=>[(5,(vL Campaign.enc a.1)),(147,(vL Pace.enc g.1)),(148,(vI (g.1.length:Int))),(149,(vI (C:Int)))])) (λk x s=>ek a k x s) ć g.1 () ß rfl (aK rfl) ?_ ?_
        ·rintro ⟨C,ç,Í⟩ ⟨Á,Z⟩
         dsimp only at Á Z
         cases ç with
         | nil =>
          obtain rfl:=ae Á
          refine ai (aa (vB (decide ((C:Int)<(g.1.length:Int)))) (af ?_))
          refine ak (ay rfl (drop_nil Z) (aY ?_))
          exact aW (Í) rfl rfl (aK rfl)
         | cons W ç =>
          obtain ⟨Ï,R,Á⟩:=bind_some Á
          refine ai (aa (vB (decide ((C:Int)<(g.1.length:Int)))) (af ?_))
          refine ak (aA rfl (bE Z) (ax ?_))
          unfold ek at R
          refine ak (aQ (ai (aa (vI (C:Int)) (dI es52 rfl rfl (bN Z) rfl wz (bH RF ag56 rfl (.d (.agg (Pace.enc W))) rfl wz (dz 0 (.inl rfl) z56 rfl wz (λą=>aa (vI (C:Int)) (gp 0 il ft 3 RF rfl rfl (Pace.v W) rfl wz (af (ak ?_))))))))))
          obtain ⟨Č,K,R⟩:=bind_some R
          refine aU [(5,(vL Campaign.enc a.1)),(147,(vL Pace.enc g.1)),(148,(vI (g.1.length:Int))),(149,(vI (C:Int))),(171,(vB Č))] [(t,some (.cells 2 [(vL eI a.2.L),(vI a.2.f_at)])),(u,gF 6 Log_.enc j),(o,gF 4 Play.enc q),(ą,some (.cells 3 (Pace.v W)))] ?_ ?_
          ·refine bv (aI MJ rfl 2 rfl wz (aH 1 3 (.inr (by kernel_rfl)) (λ_ _ ag=>trivial) sz3 ag3 rfl rfl (vI W.Done) rfl wz (aa (vL Campaign.enc a.1) (aa (vI (C:Int)) ?_))))
           obtain ⟨Î,Ā,K⟩:=bind_some K
           refine dI F8 rfl rfl Ā rfl wz (lQ zH rfl [.int .i64 Î.Goal,.int .i64 Î.Most,.int .i64 Î.Cents] rfl rfl wz (bH sz3 ag3 rfl (vI Î.Goal) rfl wz (aa (vB (W.Done != Î.Goal)) ?_)))
           rcases aj K with⟨Ó,K⟩|⟨Ó,K⟩
           ·refine aB rfl Ó wz (ah (ah (ah (ah (ah (ah (ah (ah (aa (vB true) (af ?_))))))))))
            obtain rfl:=ae K
            exact cu
           ·refine aB rfl Ó wz (aI pl56_1 rfl 1 rfl wa (aH 10 3 (.inr (by kernel_rfl)) (λ_ _ ag=>⟨.inl ⟨rfl,rfl⟩,trivial⟩) sz3 ag3 rfl rfl (vI W.Due) rfl wa (aL (vL Campaign.enc a.1) wa rfl (aL (vI (C:Int)) wa rfl ?_))))
            obtain ⟨Æ,ā,K⟩:=bind_some K
            refine dI F8 rfl rfl ā rfl wa (lQ zH rfl [.int .i64 Æ.Goal,.int .i64 Æ.Most,.int .i64 Æ.Cents] rfl rfl wa (bH sz3 ag3 rfl (vI Æ.Goal) rfl wa (aL (vB (W.Due != Æ.Goal)) wa rfl (aa (vB (W.Due != Æ.Goal)) (af ?_)))))
            obtain rfl:=ae K
            exact cu
          ·rintro ⟨⟩ _ U P l m
           refine aR _ l m ?_
           rcases aj R with⟨Ô,R⟩|⟨Ô,R⟩
           ·refine aA rfl Ô (ai (aa (vB false) (af ?_)))
            obtain rfl:=ae R
            obtain rfl:=ae Á
            obtain rfl:=ae b
            exact aC (aO [(vB false)] ⟨rfl,trivial⟩)
           ·refine ay rfl Ô (ax (au (dS (bC Z ò) wz rfl (aa (vI ((C+1:Nat):Int)) (af ?_)))))
            obtain rfl:=ae R
            exact aZ (C+1,ç,()) ⟨Á,aV Z⟩ (ls_ _) rfl (aK rfl)
        ·rintro Í M U P l m
         subst M
         refine aR _ l m (ai ?_)
         obtain ⟨î,ø,b⟩:=bind_some b
         refine aG (nu ø) rfl hb7 rfl rfl rfl rfl wz (aa (vB î) (af ?_))
         obtain rfl:=ae b
         exact aC (aO [(vB î)] ⟨rfl,trivial⟩)
end Go.Proofs.YtkjlhdminmpmkaaGreatDoor.Law

