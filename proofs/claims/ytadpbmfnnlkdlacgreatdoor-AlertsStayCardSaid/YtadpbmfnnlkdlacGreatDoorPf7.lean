/-
 The machine computes these plain functions (written by a program of ours).
-/
import Derived.Test.YtadpbmfnnlkdlacGreatDoorFacts
import Derived.Test.YtadpbmfnnlkdlacGreatDoorDefs
import Derived.Test.YtadpbmfnnlkdlacGreatDoorPf6
open Go Go.Eng Go.Proofs
namespace Go.Proofs.YtadpbmfnnlkdlacGreatDoor.Law
set_option maxRecDepth 100000
set_option linter.unusedVariables false
set_option maxHeartbeats 1000000
theorem Ch {e:Entry} {c:Int} {a:Window} {r:(List Window)} (j:oL e c a=some r) :
  FnM Tryz.prog 92 [(.d (.agg (Entry.enc e))),(vI c),(.d (.agg (Window.enc a)))] [] (gV (ax 0) 2 r) (([]:List Box).map some++gO 2 Window.enc r):=by
 refine FnM.of_wH ⟨Tryz.prog,72,[],[]⟩ rfl Tryz.func92 rfl rfl (lb_ rfl) (by kernel_rfl) ?_
 unfold oL at j
 refine ai (eT 0 (.inl rfl) (Entry.v e) rfl rfl wz (λk=>eT 0 (.inl rfl) [(vI a.From),(vI a.To)] rfl rfl wz (λl=>aa .nil (ah (ai (aa .nil (ah (ak (ak ?_)))))))))
 obtain ⟨Y,u,j⟩:=bind_some j
 refine aR [(1,(vI c)),(3,(.ref k 0 0)),(5,(.ref l 0 0)),(7,.nil),(20,(vB Y))] [(k,some (.cells 13 (Entry.v e))),(l,some (.cells 2 [(vI a.From),(vI a.To)]))] ?_ ?_
 ·refine au (aH RP rfl 12 rfl wz (aC 0 0 il ft sz4 ag4 rfl rfl (vB e.Gone) rfl wz ?_))
  rcases aj u with⟨E,u⟩|⟨E,u⟩
  ·refine aF rfl E wz (af (af (af (af (af (aa (vB true) (ah ?_)))))))
   obtain rfl:=ae u
   exact cu
  ·refine aF rfl E wz (aH oU rfl 0 rfl wa (aC 0 1 il ft sz3 ag3 rfl rfl (vI a.From) rfl wa (aH pg rfl 1 rfl wa (aC 0 1 il ft sz3 ag3 rfl rfl (vI a.To) rfl wa (aJ (vB (decide (a.From>=a.To))) wa rfl (aa (vB (decide (a.From>=a.To))) (ah ?_)))))))
   obtain rfl:=ae u
   exact cu
 ·rintro ⟨⟩ _ I y o q
  refine aN _ o q ?_
  rcases aj j with⟨F,j⟩|⟨F,j⟩
  ·refine aA rfl F (ai (aa .nil (ah (jl (λÀ => ?_)))))
   obtain rfl:=ae j
   exact aB (NJ (outs:=([]:List Box)) (.inr rfl) 2 rfl rfl rfl (by kernel_rfl) (by kernel_rfl))
  ·refine ay rfl F (av (ai (aH oU rfl 0 rfl wz (aC 0 1 il ft sz3 ag3 rfl rfl (vI a.From) rfl wz (aa (vI c) (aa (vI (w64 (c*60000))) (aa (vI (w64 (a.From+(w64 (c*60000))))) (aa (vI (w64 ((w64 (a.From+(w64 (c*60000)))).tdiv 86400000))) (aa (vI (w64 ((w64 ((w64 (a.From+(w64 (c*60000)))).tdiv 86400000))-2))) (aa (vI (w64 ((w64 ((w64 (a.From+(w64 (c*60000)))).tdiv 86400000))-2))) (ah (ai (aH pg rfl 1 rfl wz (aC 0 1 il ft sz3 ag3 rfl rfl (vI a.To) rfl wz (aa (vI c) (aa (vI (w64 (c*60000))) (aa (vI (w64 (a.To+(w64 (c*60000))))) (aa (vI (w64 ((w64 (a.To+(w64 (c*60000)))).tdiv 86400000))) (aa (vI (w64 ((w64 ((w64 (a.To+(w64 (c*60000)))).tdiv 86400000))+1))) (aa (vI (w64 ((w64 ((w64 (a.To+(w64 (c*60000)))).tdiv 86400000))+1))) (ah (ak (ai ?_)))))))))))))))))))))))
   refine aa (vI (w64 ((w64 ((w64 (a.From+(w64 (c*60000)))).tdiv 86400000))-2))) (aH FV rfl 3 rfl wz (aC 0 0 il ft sz3 ag3 rfl rfl (vI e.First) rfl wz (vG (vI (xH (w64 ((w64 ((w64 (a.From+(w64 (c*60000)))).tdiv 86400000))-2)) e.First)) rfl (.inr rfl) wz (aa (vI (xH (w64 ((w64 ((w64 (a.From+(w64 (c*60000)))).tdiv 86400000))-2)) e.First)) (ah (jl (λR => ?_)))))))
   obtain ⟨U,G,j⟩:=bind_some j
   obtain ⟨T,G⟩:=dF G
   refine Ni (σ:=(List Window)×Int) (N:=Nm) (λp=>(λ(b:(List Window)×Int) (g:Nm)=>([(7,(gV g 2 b.1))]:SL_)) p.1 p.2) (λp=>(λ(b:(List Window)×Int) (g:Nm)=>([(k,some (.cells 13 (Entry.v e))),(l,some (.cells 2 [(vI a.From),(vI a.To)])),(g,gB 2 Window.enc b.1)]:Hp)) p.1 p.2) (λ(w:Nat)=>(λp=>(λ(b:(List Window)×Int) (g:Nm)=>([(1,(vI c)),(3,(.ref k 0 0)),(5,(.ref l 0 0)),(7,(gV g 2 b.1)),(9,(vI (w64 ((w64 ((w64 (a.To+(w64 (c*60000)))).tdiv 86400000))+1)))),(10,(vI b.2))]:SL_)) p.1 p.2)) (λs=>lw a c e s) U T ((([]:List Window),(xH (w64 ((w64 ((w64 (a.From+(w64 (c*60000)))).tdiv 86400000))-2)) e.First)),R) G rfl (aG rfl) ?_ ?_
   ·rintro ⟨w,b,g⟩ m
    dsimp only at m
    cases w with
    | zero=>cases m
    | succ w =>
     obtain ⟨Z,f,m⟩:=bind_some m
     unfold lw at f
     refine ak (ai (aa (vI b.2) (aa (vI (w64 ((w64 ((w64 (a.To+(w64 (c*60000)))).tdiv 86400000))+1))) (aH FX rfl 4 rfl wz (aC 0 0 il ft sz3 ag3 rfl rfl (vI e.Last) rfl wz (vG (vI (Al (w64 ((w64 ((w64 (a.To+(w64 (c*60000)))).tdiv 86400000))+1)) e.Last)) rfl (.inl rfl) wz (aa (vB (decide (b.2<=(Al (w64 ((w64 ((w64 (a.To+(w64 (c*60000)))).tdiv 86400000))+1)) e.Last)))) (ah ?_))))))))
     rcases aj f with⟨z,f⟩|⟨z,f⟩
     ·refine aA rfl z (av (ak (aK (ak (ai (aC 0 0 il ft HV Jd rfl rfl (.d (.agg (Entry.enc e))) rfl wz (aa (vI b.2) ?_)))))))
      obtain ⟨W,O,f⟩:=bind_some f
      refine aD (CR O) rfl hb140 rfl rfl rfl rfl wz (aa (vB (!W)) (ah ?_))
      rcases aj f with⟨A,f⟩|⟨A,f⟩
      ·refine aA rfl A (aX (au (aa (vI b.2) (aa (vI (w64 (b.2+1))) (aa (vI (w64 (b.2+1))) (ah ?_))))))
       obtain rfl:=ae f
       exact aV (w,(b.1,(w64 (b.2+1))),g) m (ls_ _) rfl (aG rfl)
      ·refine ay rfl A (av (ai (aC 0 0 il ft HV Jd rfl rfl (.d (.agg (Entry.enc e))) rfl wz (aa (vI c) (aa (vI b.2) ?_)))))
       obtain ⟨h,P,f⟩:=bind_some f
       refine aD (Ce P) rfl hb141 rfl rfl rfl rfl wz (bZ 0 (.inl rfl) z116 rfl wz (λH=>gp 0 il ft 3 vH rfl rfl [(vI h.From),(vI h.To)] rfl wz (ah (ak ?_))))
       obtain ⟨X,t,f⟩:=bind_some f
       refine aR [(1,(vI c)),(3,(.ref k 0 0)),(5,(.ref l 0 0)),(7,(gV g 2 b.1)),(9,(vI (w64 ((w64 ((w64 (a.To+(w64 (c*60000)))).tdiv 86400000))+1)))),(10,(vI b.2)),(11,(.ref H 0 0)),(66,(vB X))] [(k,some (.cells 13 (Entry.v e))),(l,some (.cells 2 [(vI a.From),(vI a.To)])),(g,gB 2 Window.enc b.1),(H,some (.cells 2 [(vI h.From),(vI h.To)]))] ?_ ?_
       ·refine au (aH oU rfl 0 rfl wz (aC 0 3 il ft sz3 ag3 rfl rfl (vI h.From) rfl wz (aH pg rfl 1 rfl wz (aC 0 1 il ft sz3 ag3 rfl rfl (vI a.To) rfl wz (aa (vB (decide (h.From<a.To))) ?_)))))
        rcases aj t with⟨B,t⟩|⟨B,t⟩
        ·refine aF rfl B wz (aH pg rfl 1 rfl wa (aC 0 3 il ft sz3 ag3 rfl rfl (vI h.To) rfl wa (aH oU rfl 0 rfl wa (aC 0 1 il ft sz3 ag3 rfl rfl (vI a.From) rfl wa (aJ (vB (decide (h.To>a.From))) wa rfl (aa (vB (decide (h.To>a.From))) (ah ?_)))))))
         obtain rfl:=ae t
         exact cu
        ·refine aF rfl B wz (af (af (af (af (af (aa (vB false) (ah ?_)))))))
         obtain rfl:=ae t
         exact cu
       ·rintro ⟨⟩ _ I y o q
        refine aN _ o q ?_
        obtain ⟨J,n,f⟩:=bind_some f
        refine kT (β:=Nm) (λ(x:Nm)=>([(1,(vI c)),(3,(.ref k 0 0)),(5,(.ref l 0 0)),(7,(gV x 2 J)),(9,(vI (w64 ((w64 ((w64 (a.To+(w64 (c*60000)))).tdiv 86400000))+1)))),(10,(vI b.2))]:SL_)) (λ(x:Nm)=>([(k,some (.cells 13 (Entry.v e))),(l,some (.cells 2 [(vI a.From),(vI a.To)])),(x,gB 2 Window.enc J),(H,some (.cells 2 [(vI h.From),(vI h.To)]))]:Hp)) (λ_=>True) ?_ ?_
        ·rcases aj n with⟨C,n⟩|⟨C,n⟩
         ·refine aA rfl C (au (aa (gV g 2 b.1) (aC 0 3 il ft vH CL rfl rfl (.d (.agg (Window.enc h))) rfl wz (dW (([h]:List Window).map Window.enc) QV ez110 rfl rfl rfl rfl rfl wz ?_))))
          obtain ⟨L,Q,n⟩:=bind_some n
          refine lh 0 il ft (i:=2) el110 el110 vH z116 rfl (by decide) by116 (by decide) (λ_=>rfl) rfl rfl rfl Q wz (λK=>aa (gV K 2 L) (ah ?_))
          obtain rfl:=ae n
          exact aU K trivial rfl (aG rfl)
         ·refine ay rfl C (av ?_)
          obtain rfl:=ae n
          exact aU g trivial rfl (aG rfl)
        ·rintro x _ I y o q
         refine aN _ o q (au (aa (vI b.2) (aa (vI (w64 (b.2+1))) (aa (vI (w64 (b.2+1))) (ah ?_)))))
         obtain rfl:=ae f
         exact aV (w,(J,(w64 (b.2+1))),x) m (ls_ _) rfl (aG rfl)
     ·refine ay rfl z (aX ?_)
      obtain rfl:=ae f
      obtain rfl:=ae m
      exact aU ((b.1,b.2),g) rfl rfl (aG rfl)
   ·rintro ⟨b,g⟩ M I y o q
    subst M
    refine aN _ o q (ai (aa (gV g 2 b.1) (aa (gV g 2 b.1) (ah ?_))))
    obtain rfl:=ae j
    exact aB (NJ (outs:=([]:List Box)) (.inr rfl) 2 rfl rfl rfl (by kernel_rfl) (by kernel_rfl))
theorem Dp {h:Entry} {q:Int} {g:Window} {r:(List Window)×Int} (a:oO h q g=some r) :
  FnM Tryz.prog 59 [(.d (.agg (Entry.enc h))),(vI q),(.d (.agg (Window.enc g)))] [] (.tup [(vL Window.enc r.1),(vI r.2)]) []:=by
 refine FnM.of_wH ⟨Tryz.prog,45,[],[]⟩ rfl Tryz.func59 rfl rfl (lb_ rfl) (by kernel_rfl) ?_
 unfold oO at a
 refine ai (eT 0 (.inl rfl) (Entry.v h) rfl rfl wz (λE=>eT 0 (.inl rfl) [(vI g.From),(vI g.To)] rfl rfl wz (λA=>aa .nil (aa (vI 0) (ah (ak (ai (aC 0 0 il ft HV Jd rfl rfl (.d (.agg (Entry.enc h))) rfl wz (dW (([h]:List Entry).map Entry.enc) RD ez154 rfl rfl rfl rfl rfl wz ?_)))))))))
 obtain ⟨l,N,a⟩:=bind_some a
 refine aD (xy N) rfl hb90 rfl rfl rfl rfl wz (aa (vI l) (ah (ai (aa (vI l) (aa (vB (l != 0)) (ah ?_))))))
 rcases aj a with⟨w,a⟩|⟨w,a⟩
 ·refine aA rfl w (ai (aa (vI l) (aa .nil (aa (vI l) (ah ?_)))))
  obtain rfl:=ae a
  exact aB (aM [.nil,(vI l)] ⟨rfl,⟨rfl,trivial⟩⟩)
 ·refine ay rfl w (av (ak (ai (aa (vI q) ?_))))
  obtain ⟨X,J,a⟩:=bind_some a
  refine aD (bI J) rfl uO rfl rfl rfl rfl wz (ah ?_)
  rcases aj a with⟨t,a⟩|⟨t,a⟩
  ·refine aA rfl t (ai (aa .nil (aa (vI 1) (ah ?_))))
   obtain rfl:=ae a
   exact aB (aM [.nil,(vI 1)] ⟨rfl,⟨rfl,trivial⟩⟩)
  ·refine ay rfl t (av (ak (ai (aC 0 1 il ft vH CL rfl rfl (.d (.agg (Window.enc g))) rfl wz ?_))))
   obtain ⟨j,K,a⟩:=bind_some a
   refine aD (xD K) rfl hb91 rfl rfl rfl rfl wz (aa (vI j) (ah (ai (aa (vI j) (aa (vB (j != 0)) (ah ?_))))))
   rcases aj a with⟨u,a⟩|⟨u,a⟩
   ·refine aA rfl u (ai (aa (vI j) (aa .nil (aa (vI j) (ah ?_)))))
    obtain rfl:=ae a
    exact aB (aM [.nil,(vI j)] ⟨rfl,⟨rfl,trivial⟩⟩)
   ·refine ay rfl u (av (ai (aC 0 0 il ft HV Jd rfl rfl (.d (.agg (Entry.enc h))) rfl wz (aa (vI q) (aC 0 1 il ft vH CL rfl rfl (.d (.agg (Window.enc g))) rfl wz ?_)))))
    obtain ⟨i,L,a⟩:=bind_some a
    refine OC [] (Ch L) rfl hb92 rfl (by kernel_rfl) (by kernel_rfl) (by kernel_rfl) (by kernel_rfl) (by kernel_rfl) rfl (by decide) (by kernel_rfl) wz ([(E,some (.cells 13 (Entry.v h))),(A,some (.cells 2 [(vI g.From),(vI g.To)]))]:Hp) (λ_=>by kernel_rfl) (λf=>aa (gV f 2 i) (ah (ak (ai (aa (gV f 2 i) (zG un110 rfl wz (aa (vI 0) (ah ?_))))))))
    obtain ⟨Q,y,a⟩:=bind_some a
    obtain ⟨F,y⟩:=aS y
    refine bH (λ(b:List Window)=>[(10,(gV f 2 b))]) (λ(b:List Window)=>[(E,some (.cells 13 (Entry.v h))),(A,some (.cells 2 [(vI g.From),(vI g.To)])),(f,gB 2 Window.enc b)]) (λ(c:Nat)=>(λ(b:List Window)=>[(5,(.ref A 0 0)),(10,(gV f 2 b)),(30,(gV f 2 b)),(31,(vI (i.length:Int))),(32,(vI (c:Int)))])) (λk x s=>nU g k x s) Q (List.range ((i.length:Int)).toNat) i y rfl (aG rfl) ?_ ?_
    ·rintro ⟨c,z,b⟩ ⟨n,m⟩
     dsimp only at n m
     cases z with
     | nil =>
      obtain rfl:=ae n
      refine ai (aa (vB (decide ((c:Int)<(i.length:Int)))) (ah ?_))
      refine ak (ay rfl (mg m) (aX ?_))
      exact aU (b) rfl rfl (aG rfl)
     | cons Z z =>
      obtain ⟨T,e,n⟩:=bind_some n
      refine ai (aa (vB (decide ((c:Int)<(i.length:Int)))) (ah ?_))
      refine ak (aA rfl (kR m) (av ?_))
      unfold nU at e
      refine ak (aK (ai (aa (vI (c:Int)) ?_)))
      obtain ⟨_,B,e⟩:=bind_some e
      refine xg QV rfl rfl (gN B) (dP B) wz ?_
      obtain ⟨p,O,e⟩:=bind_some e
      refine jm 0 2 il ft vH CL rfl rfl O (.d (.agg (Window.enc p))) rfl wz (bZ 0 (.inl rfl) z116 rfl wz (λW=>aa (vI (c:Int)) (gp 0 il ft 3 vH rfl rfl [(vI p.From),(vI p.To)] rfl wz (ah (au (aa (gV f 2 b) (aa (vI (c:Int)) (aC 0 3 il ft vH CL rfl rfl (.d (.agg (Window.enc p))) rfl wz (aC 0 1 il ft vH CL rfl rfl (.d (.agg (Window.enc g))) rfl wz ?_)))))))))
      obtain ⟨o,M,e⟩:=bind_some e
      refine aD (FH M) rfl hb93 rfl rfl rfl rfl wz ?_
      obtain ⟨_,C,e⟩:=bind_some e
      refine xg QV rfl rfl (gN C) (dP C) wz ?_
      obtain ⟨U,P,e⟩:=bind_some e
      refine pR 0 il ft 2 vH rfl rfl P o rfl wz (bT (v':=(gV f 2 (b.set (0+((c:Int)).toNat) o))) 10 rfl (fC (by simp)) (bT (v':=(gV f 2 (b.set (0+((c:Int)).toNat) o))) 30 rfl (fC (by simp)) (bT (v':=(gV f 2 (b.set (0+((c:Int)).toNat) o))) 37 rfl (fC (by simp)) (ah (au (dx (ma m F) wz rfl (aa (vI ((c+1:Nat):Int)) (ah ?_))))))))
      obtain rfl:=ae e
      exact aV (c+1,z,(b.set (0+((c:Int)).toNat) o)) ⟨n,aP m⟩ (ls_ _) rfl (aG rfl)
    ·rintro b G Y R H I
     subst G
     refine aN _ H I (ai (aa (gV f 2 b) (aa (gV f 2 b) (aa (vI 0) (ah (jP 2 rfl (fI 6 2 rfl rfl (fI 10 2 rfl rfl (fI 44 2 rfl rfl ?_)))))))))
     obtain rfl:=ae a
     exact aB (aM [(vL Window.enc b),(vI 0)] ⟨rfl,⟨rfl,trivial⟩⟩)
theorem CS {a:Window} {r:Bool} (c:rq a=some r) :
  FnM Tryz.prog 142 [(.d (.agg (Window.enc a)))] [] (vB r) []:=by
 refine FnM.of_wH ⟨Tryz.prog,18,[],[]⟩ rfl Tryz.func142 rfl rfl (lb_ rfl) (by kernel_rfl) ?_
 unfold rq at c
 refine ai (eT 0 (.inl rfl) [(vI a.From),(vI a.To)] rfl rfl wz (λj=>aa (vB false) (ah (ak ?_))))
 obtain ⟨g,b,c⟩:=bind_some c
 refine aR [(2,(vB g))] [(j,some (.cells 2 [(vI a.From),(vI a.To)]))] ?_ ?_
 ·refine au (aH oU rfl 0 rfl wz (aC 0 0 il ft sz3 ag3 rfl rfl (vI a.From) rfl wz (aa (vB (decide (a.From>=0))) ?_)))
  rcases aj b with⟨e,b⟩|⟨e,b⟩
  ·refine aF rfl e wz (aH oU rfl 0 rfl wa (aC 0 0 il ft sz3 ag3 rfl rfl (vI a.From) rfl wa (aH pg rfl 1 rfl wa (aC 0 0 il ft sz3 ag3 rfl rfl (vI a.To) rfl wa (aJ (vB (decide (a.From<a.To))) wa rfl (aa (vB (decide (a.From<a.To))) ?_))))))
   rcases aj b with⟨f,b⟩|⟨f,b⟩
   ·refine aF rfl f wz (aH pg rfl 1 rfl wa (aC 0 0 il ft sz3 ag3 rfl rfl (vI a.To) rfl wa (aJ (vB (decide (a.To<=345686400000))) wa rfl (aa (vB (decide (a.To<=345686400000))) (aa (vB (decide (a.To<=345686400000))) (ah ?_))))))
    obtain rfl:=ae b
    exact cu
   ·refine aF rfl f wz (af (af (af (aa (vB false) (aa (vB false) (ah ?_))))))
    obtain rfl:=ae b
    exact cu
  ·refine aF rfl e wz (af (af (af (af (af (aa (vB false) (aa (vB false) (af (af (af (aa (vB false) (aa (vB false) (ah ?_)))))))))))))
   obtain rfl:=ae b
   exact cu
 ·rintro ⟨⟩ _ l k h i
  refine aN _ h i ?_
  obtain rfl:=ae c
  exact aB (aM [(vB g)] ⟨rfl,trivial⟩)
theorem Ak {b:(List ByteArray)} {r:Int} (a:lK b=some r) :
  FnM Tryz.prog 143 [(vL eS b)] [] (vI r) []:=by
 refine FnM.of_wH ⟨Tryz.prog,8,[],[]⟩ rfl Tryz.func143 rfl rfl (lb_ rfl) (by kernel_rfl) ?_
 unfold lK at a
 refine ai (aa (vI 0) (ah (ak (ai (aa (vL eS b) (bJ wY rfl wz (aa (vB (decide ((b.length:Int)>20))) (ah ?_))))))))
 rcases aj a with⟨c,a⟩|⟨c,a⟩
 ·refine aA rfl c (ai (aa (vI 2) (ah ?_)))
  obtain rfl:=ae a
  exact aB (aM [(vI 2)] ⟨rfl,trivial⟩)
 ·refine ay rfl c (av (ai (aa (vL eS b) ?_)))
  obtain ⟨d,e,a⟩:=bind_some a
  refine aD (vT e) rfl hb173 rfl rfl rfl rfl wz (aa (vI d) (ah ?_))
  obtain rfl:=ae a
  exact aB (aM [(vI d)] ⟨rfl,trivial⟩)
theorem wG {b:(List Campaign)} {r:Int} (h:jg b=some r) :
  FnM Tryz.prog 94 [(vL Campaign.enc b)] [] (vI r) []:=by
 refine FnM.of_wH ⟨Tryz.prog,73,[],[]⟩ rfl Tryz.func94 rfl rfl (lb_ rfl) (by kernel_rfl) ?_
 unfold jg at h
 refine ai (aa (vI 0) (ah (ak (ai (aa (vL Campaign.enc b) (bJ un159 rfl wz (aa (vB (decide ((b.length:Int)>30))) (ah ?_))))))))
 rcases aj h with⟨A,h⟩|⟨A,h⟩
 ·refine aA rfl A (ai (aa (vI 2) (ah ?_)))
  obtain rfl:=ae h
  exact aB (aM [(vI 2)] ⟨rfl,trivial⟩)
 ·refine ay rfl A (av (ak (ai (aa (vL Campaign.enc b) (bJ un159 rfl wz (aa (vI 0) (ah ?_)))))))
  obtain ⟨À,K,h⟩:=bind_some h
  obtain ⟨O,K⟩:=aS K
  refine bH (λ(q:Unit)=>[]) (λ(q:Unit)=>[]) (λ(f:Nat)=>(λ(q:Unit)=>[(0,(vL Campaign.enc b)),(9,(vL Campaign.enc b)),(10,(vI (b.length:Int))),(11,(vI (f:Int)))])) (λk x s=>ik b k x s) À b () K rfl (aG rfl) ?_ ?_
  ·rintro ⟨f,L,q⟩ ⟨i,n⟩
   dsimp only at i n
   cases L with
   | nil =>
    obtain rfl:=ae i
    refine ai (aa (vB (decide ((f:Int)<(b.length:Int)))) (ah ?_))
    refine ak (ay rfl (drop_nil n) (aX ?_))
    exact aU (q) rfl rfl (aG rfl)
   | cons e L =>
    obtain ⟨È,a,i⟩:=bind_some i
    refine ai (aa (vB (decide ((f:Int)<(b.length:Int)))) (ah ?_))
    refine ak (aA rfl (aZ n) (av ?_))
    unfold ik at a
    refine ak (aK (ai (aa (vI (f:Int)) (dK Ty rfl rfl (bz n) rfl wz (bK Px RN rfl (.d (.agg (Campaign.enc e))) rfl wz (bZ 0 (.inl rfl) z119 rfl wz (λo=>aa (vI (f:Int)) (gp 0 il ft 0 Px rfl rfl (Campaign.v e) rfl wz (ah (ak (aK (ak ?_))))))))))))
    obtain ⟨Å,g,a⟩:=bind_some a
    refine aR [(0,(vL Campaign.enc b)),(3,(vI (f:Int))),(4,(.ref o 0 0)),(9,(vL Campaign.enc b)),(10,(vI (b.length:Int))),(11,(vI (f:Int))),(16,(vB Å))] [(o,some (.cells 8 (Campaign.v e)))] ?_ ?_
    ·refine au (aH KZ rfl 0 rfl wz (aC 0 0 il ft sz9 ag9 rfl rfl (vS e.Key) rfl wz ?_))
     obtain ⟨Á,Q,g⟩:=bind_some g
     refine aD (gX Q) rfl DY rfl rfl rfl rfl wz (aa (vB (!Á)) ?_)
     rcases aj g with⟨y,g⟩|⟨y,g⟩
     ·refine aF rfl y wz (af (af (af (af (dI (wn rfl rfl) (dI (wn rfl rfl) (dI (wn rfl rfl) (dI (wn rfl rfl) (af (aa (vB true) (aa (vB true) (ah ?_))))))))))))
      obtain rfl:=ae g
      exact cu
     ·refine aF rfl y wz (aH OD rfl 1 rfl wa (aC 0 0 il ft sz9 ag9 rfl rfl (vS e.Class) rfl wa (aJ (vB (sNe e.Class (⟨#[]⟩:ByteArray))) wa rfl ?_)))
      rcases aj g with⟨z,g⟩|⟨z,g⟩
      ·refine aF rfl z wa (aH OD rfl 1 rfl wa (aC 0 0 il ft sz9 ag9 rfl rfl (vS e.Class) rfl wa ?_))
       obtain ⟨u,R,g⟩:=bind_some g
       refine aD (gX R) rfl DY rfl rfl rfl rfl wa (aJ (vB (!u)) wa rfl (aJ (vB (!u)) wa rfl (aa (vB (!u)) (aa (vB (!u)) (ah ?_)))))
       obtain rfl:=ae g
       exact cu
      ·refine aF rfl z wa (af (af (af (af (aJ (vB false) wa rfl (aa (vB false) (aa (vB false) (ah ?_))))))))
       obtain rfl:=ae g
       exact cu
    ·rintro ⟨⟩ _ M w l m
     refine aN _ l m ?_
     rcases aj a with⟨B,a⟩|⟨B,a⟩
     ·refine aA rfl B (ai (aa (vI 5) (ah ?_)))
      obtain rfl:=ae a
      obtain rfl:=ae i
      obtain rfl:=ae h
      exact aB (aM [(vI 5)] ⟨rfl,trivial⟩)
     ·refine ay rfl B (ak ?_)
      obtain ⟨Æ,j,a⟩:=bind_some a
      refine aR [(0,(vL Campaign.enc b)),(4,(.ref o 0 0)),(9,(vL Campaign.enc b)),(10,(vI (b.length:Int))),(11,(vI (f:Int))),(32,(vB Æ))] [(o,some (.cells 8 (Campaign.v e)))] ?_ ?_
      ·refine bv (aa (vI (f:Int)) (aa (vB (decide ((f:Int)>0))) ?_))
       rcases aj j with⟨C,j⟩|⟨C,j⟩
       ·refine aF rfl C wz (aH KZ rfl 0 rfl wa (aC 4 0 (.inr (by kernel_rfl)) (λ_ _ ag=>trivial) sz9 ag9 rfl rfl (vS e.Key) rfl wa (aJ (vL Campaign.enc b) wa rfl (aJ (vI (f:Int)) wa rfl (aJ (vI (w64 ((f:Int)-1))) wa rfl ?_)))))
        obtain ⟨t,Z,j⟩:=bind_some j
        refine dK Ty rfl rfl Z rfl wa (uJ KZ rfl (Campaign.enc t) rfl rfl wa (bK sz9 ag9 rfl (vS t.Key) rfl wa (aJ (vB (sLe e.Key t.Key)) wa rfl (aa (vB (sLe e.Key t.Key)) (aa (vB (sLe e.Key t.Key)) (ah ?_))))))
        obtain rfl:=ae j
        exact cu
       ·refine aF rfl C wz (af (af (af (af (af (af (af (af (af (aa (vB false) (aa (vB false) (ah ?_))))))))))))
        obtain rfl:=ae j
        exact cu
      ·rintro ⟨⟩ _ M w l m
       refine aN _ l m ?_
       rcases aj a with⟨E,a⟩|⟨E,a⟩
       ·refine aA rfl E (ai (aa (vI 7) (ah ?_)))
        obtain rfl:=ae a
        obtain rfl:=ae i
        obtain rfl:=ae h
        exact aB (aM [(vI 7)] ⟨rfl,trivial⟩)
       ·refine ay rfl E (ak ?_)
        obtain ⟨Ç,c,a⟩:=bind_some a
        refine aR [(0,(vL Campaign.enc b)),(4,(.ref o 0 0)),(9,(vL Campaign.enc b)),(10,(vI (b.length:Int))),(11,(vI (f:Int))),(46,(vB Ç))] [(o,some (.cells 8 (Campaign.v e)))] ?_ ?_
        ·refine au (aH Ap rfl 2 rfl wz (aC 0 0 il ft vH CL rfl rfl (.d (.agg (Window.enc e.Time))) rfl wz ?_))
         obtain ⟨Â,T,c⟩:=bind_some c
         refine aD (CS T) rfl hb142 rfl rfl rfl rfl wz (aa (vB (!Â)) ?_)
         rcases aj c with⟨F,c⟩|⟨F,c⟩
         ·refine aF rfl F wz (af (af (af (aa (vB true) (aa (vB true) (af (af (af (aa (vB true) (aa (vB true) (af (af (af (aa (vB true) (aa (vB true) (ah ?_))))))))))))))))
          obtain rfl:=ae c
          exact cu
         ·refine aF rfl F wz (aH KL rfl 5 rfl wa (aC 0 0 il ft sz3 ag3 rfl rfl (vI e.Goal) rfl wa ?_))
          obtain ⟨Ã,U,c⟩:=bind_some c
          refine aD (bI U) rfl uO rfl rfl rfl rfl wa (aa (vB Ã) ?_)
          rcases aj c with⟨G,c⟩|⟨G,c⟩
          ·refine aF rfl G wz (af (af (af (aa (vB true) (aa (vB true) (af (af (af (aa (vB true) (aa (vB true) (ah ?_)))))))))))
           obtain rfl:=ae c
           exact cu
          ·refine aF rfl G wz (aH pl119_5 rfl 6 rfl wa (aC 0 0 il ft sz3 ag3 rfl rfl (vI e.Most) rfl wa ?_))
           obtain ⟨Ä,W,c⟩:=bind_some c
           refine aD (bI W) rfl uO rfl rfl rfl rfl wa (aa (vB Ä) ?_)
           rcases aj c with⟨H,c⟩|⟨H,c⟩
           ·refine aF rfl H wz (af (af (af (aa (vB true) (aa (vB true) (ah ?_))))))
            obtain rfl:=ae c
            exact cu
           ·refine aF rfl H wz (aH pl119_6 rfl 7 rfl wa (aC 0 0 il ft sz3 ag3 rfl rfl (vI e.Cents) rfl wa ?_))
            obtain ⟨N,X,c⟩:=bind_some c
            refine aD (bI X) rfl uO rfl rfl rfl rfl wa (aa (vB N) (aa (vB N) (ah ?_)))
            obtain rfl:=ae c
            exact cu
        ·rintro ⟨⟩ _ M w l m
         refine aN _ l m ?_
         rcases aj a with⟨I,a⟩|⟨I,a⟩
         ·refine aA rfl I (ai (aa (vI 1) (ah ?_)))
          obtain rfl:=ae a
          obtain rfl:=ae i
          obtain rfl:=ae h
          exact aB (aM [(vI 1)] ⟨rfl,trivial⟩)
         ·refine ay rfl I (av (ai (aH pl119_3 rfl 4 rfl wz (aC 0 0 il ft zV Cy rfl rfl (vL eS e.Tags) rfl wz ?_))))
          obtain ⟨p,Y,a⟩:=bind_some a
          refine aD (Ak Y) rfl hb143 rfl rfl rfl rfl wz (aa (vI p) (ah (ai (aa (vI p) (aa (vB (p != 0)) (ah ?_))))))
          rcases aj a with⟨J,a⟩|⟨J,a⟩
          ·refine aA rfl J (ai (aa (vI p) (aa (vI p) (ah ?_))))
           obtain rfl:=ae a
           obtain rfl:=ae i
           obtain rfl:=ae h
           exact aB (aM [(vI p)] ⟨rfl,trivial⟩)
          ·refine ay rfl J (av (au (dx (bf n O) wz rfl (aa (vI ((f+1:Nat):Int)) (ah ?_)))))
           obtain rfl:=ae a
           exact aV (f+1,L,()) ⟨i,aP n⟩ (ls_ _) rfl (aG rfl)
  ·rintro q P M w l m
   subst P
   refine aN _ l m (ai (aa (vI 0) (ah ?_)))
   obtain rfl:=ae h
   exact aB (aM [(vI 0)] ⟨rfl,trivial⟩)
theorem GJ {a:Campaign} {c:Int} {r:Int} (b:wQ a c=some r) :
  FnM Tryz.prog 95 [(.d (.agg (Campaign.enc a))),(vI c)] [] (vI r) []:=by
 refine FnM.of_wH ⟨Tryz.prog,35,[],[]⟩ rfl Tryz.func95 rfl rfl (lb_ rfl) (by kernel_rfl) ?_
 unfold wQ at b
 refine ai (eT 0 (.inl rfl) (Campaign.v a) rfl rfl wz (λi=>aa (vI 0) (ah (ak (aK (ai (aa (vI c) (aH Ap rfl 2 rfl wz (aH oU rfl 2 rfl wz (aC 0 0 il ft sz3 ag3 rfl rfl (vI a.Time.From) rfl wz (aa (vB (decide (c<a.Time.From))) (aa (vB (decide (c<a.Time.From))) (ah ?_)))))))))))))
 rcases aj b with⟨e,b⟩|⟨e,b⟩
 ·refine aA rfl e (ai (aa (vI 0) (ah ?_)))
  obtain rfl:=ae b
  exact aB (aM [(vI 0)] ⟨rfl,trivial⟩)
 ·refine ay rfl e (ai (aa (vI c) (aH Ap rfl 2 rfl wz (aH pg rfl 3 rfl wz (aC 0 0 il ft sz3 ag3 rfl rfl (vI a.Time.To) rfl wz (aa (vB (decide (c>=a.Time.To))) (aa (vB (decide (c>=a.Time.To))) (ah ?_))))))))
  rcases aj b with⟨f,b⟩|⟨f,b⟩
  ·refine aA rfl f (ai (aH KL rfl 5 rfl wz (aC 0 0 il ft sz3 ag3 rfl rfl (vI a.Goal) rfl wz (aa (vI a.Goal) (ah ?_)))))
   obtain rfl:=ae b
   exact aB (aM [(vI a.Goal)] ⟨rfl,trivial⟩)
  ·refine ay rfl f (av (ai (aH KL rfl 5 rfl wz (aC 0 0 il ft sz3 ag3 rfl rfl (vI a.Goal) rfl wz (aa (vI c) (aH Ap rfl 2 rfl wz (aH oU rfl 2 rfl wz (aC 0 0 il ft sz3 ag3 rfl rfl (vI a.Time.From) rfl wz (aa (vI (w64 (c-a.Time.From))) (aa (vI (w64 (a.Goal*(w64 (c-a.Time.From))))) (aH Ap rfl 2 rfl wz (aH pg rfl 3 rfl wz (aC 0 0 il ft sz3 ag3 rfl rfl (vI a.Time.To) rfl wz (aH Ap rfl 2 rfl wz (aH oU rfl 2 rfl wz (aC 0 0 il ft sz3 ag3 rfl rfl (vI a.Time.From) rfl wz (aa (vI (w64 (a.Time.To-a.Time.From))) ?_)))))))))))))))))
   obtain ⟨g,h,b⟩:=bind_some b
   refine SA rfl rfl h wz (aa (vI g) (ah (aN (H0:=([(i,some (.cells 8 (Campaign.v a)))]:Hp)) ([(4,(vI g))]:SL_) (by kernel_rfl) (yN (by kernel_rfl)) ?_)))
   obtain rfl:=ae b
   exact aB (aM [(vI g)] ⟨rfl,trivial⟩)
theorem H8 {b:Campaign} {e:Int} {r:Int×Int} (a:tK b e=some r) :
  FnM Tryz.prog 60 [(.d (.agg (Campaign.enc b))),(vI e)] [] (.tup [(vI r.1),(vI r.2)]) []:=by
 refine FnM.of_wH ⟨Tryz.prog,19,[],[]⟩ rfl Tryz.func60 rfl rfl (lb_ rfl) (by kernel_rfl) ?_
 unfold tK at a
 refine ai (eT 0 (.inl rfl) (Campaign.v b) rfl rfl wz (λm=>aa (vI 0) (aa (vI 0) (ah (ak (ai (aC 0 0 il ft Px RN rfl rfl (.d (.agg (Campaign.enc b))) rfl wz (dW (([b]:List Campaign).map Campaign.enc) Ty ez159 rfl rfl rfl rfl rfl wz ?_))))))))
 obtain ⟨c,j,a⟩:=bind_some a
 refine aD (wG j) rfl hb94 rfl rfl rfl rfl wz (aa (vI c) (ah (ai (aa (vI c) (aa (vB (c != 0)) (ah ?_))))))
 rcases aj a with⟨f,a⟩|⟨f,a⟩
 ·refine aA rfl f (ai (aa (vI c) (aa (vI 0) (aa (vI c) (ah ?_)))))
  obtain rfl:=ae a
  exact aB (aM [(vI 0),(vI c)] ⟨rfl,⟨rfl,trivial⟩⟩)
 ·refine ay rfl f (av (ak (ai (aa (vI e) ?_))))
  obtain ⟨l,k,a⟩:=bind_some a
  refine aD (gM k) rfl IV rfl rfl rfl rfl wz (aa (vB (!l)) (ah ?_))
  rcases aj a with⟨g,a⟩|⟨g,a⟩
  ·refine aA rfl g (ai (aa (vI 0) (aa (vI 1) (ah ?_))))
   obtain rfl:=ae a
   exact aB (aM [(vI 0),(vI 1)] ⟨rfl,⟨rfl,trivial⟩⟩)
  ·refine ay rfl g (av (ai (aC 0 0 il ft Px RN rfl rfl (.d (.agg (Campaign.enc b))) rfl wz (aa (vI e) ?_))))
   obtain ⟨h,i,a⟩:=bind_some a
   refine aD (GJ i) rfl hb95 rfl rfl rfl rfl wz (aa (vI h) (aa (vI 0) (ah ?_)))
   obtain rfl:=ae a
   exact aB (aM [(vI h),(vI 0)] ⟨rfl,⟨rfl,trivial⟩⟩)
theorem zo {b:Beat} {c:Beat} {r:Int} (a:mR b c=some r) :
  FnM Tryz.prog 174 [(.d (.agg (Beat.enc b))),(.d (.agg (Beat.enc c)))] [] (vI r) []:=by
 refine FnM.of_wH ⟨Tryz.prog,17,[],[]⟩ rfl Tryz.func174 rfl rfl (lb_ rfl) (by kernel_rfl) ?_
 unfold mR at a
 refine ai (eT 0 (.inl rfl) (Beat.v b) rfl rfl wz (λk=>eT 0 (.inl rfl) (Beat.v c) rfl rfl wz (λl=>aa (vI 0) (ah (ak (bv (aH AL rfl 0 rfl wz (aC 1 0 (.inr (by kernel_rfl)) (λ_ _ ag=>trivial) sz9 ag9 rfl rfl (vS b.Player) rfl wz (aH AL rfl 0 rfl wz (aC 3 1 (.inr (by kernel_rfl)) (λ_ _ ag=>⟨.inl ⟨rfl,rfl⟩,trivial⟩) sz9 ag9 rfl rfl (vS c.Player) rfl wz ?_))))))))))
 obtain ⟨i,g,a⟩:=bind_some a
 refine aD (gL g) rfl LJ rfl rfl rfl rfl wz (aH Dl rfl 1 rfl wz (aC 6 0 (.inr (by kernel_rfl)) (λ_ _ ag=>⟨.inl ⟨rfl,rfl⟩,⟨.inl ⟨rfl,rfl⟩,trivial⟩⟩) sz3 ag3 rfl rfl (vI b.At) rfl wz (aH Dl rfl 1 rfl wz (aC 8 1 (.inr (by kernel_rfl)) (λ_ _ ag=>⟨.inl ⟨rfl,rfl⟩,⟨.inl ⟨rfl,rfl⟩,⟨.inl ⟨rfl,rfl⟩,trivial⟩⟩⟩) sz3 ag3 rfl rfl (vI c.At) rfl wz ?_))))
 obtain ⟨j,h,a⟩:=bind_some a
 refine aD (iT h) rfl Oa rfl rfl rfl rfl wz (dW (([i,j]:List Int).map eI) nZ BI rfl rfl rfl rfl rfl wz ?_)
 obtain ⟨e,f,a⟩:=bind_some a
 refine aD (lV f) rfl Np rfl rfl rfl rfl wz (aa (vI e) (ah ?_))
 obtain rfl:=ae a
 exact aB (aM [(vI e)] ⟨rfl,trivial⟩)
theorem Bc {b:(List Beat)} {r:Int} (g:mo b=some r) :
  FnM Tryz.prog 144 [(vL Beat.enc b)] [] (vI r) []:=by
 refine FnM.of_wH ⟨Tryz.prog,69,[],[]⟩ rfl Tryz.func144 rfl rfl (lb_ rfl) (by kernel_rfl) ?_
 unfold mo at g
 refine ai (aa (vI 0) (ah (ak (ai (aa (vL Beat.enc b) (bJ RB rfl wz (aa (vB (decide ((b.length:Int)>500))) (ah ?_))))))))
 rcases aj g with⟨y,g⟩|⟨y,g⟩
 ·refine aA rfl y (ai (aa (vI 2) (ah ?_)))
  obtain rfl:=ae g
  exact aB (aM [(vI 2)] ⟨rfl,trivial⟩)
 ·refine ay rfl y (av (ak (ai (aa (vL Beat.enc b) (bJ RB rfl wz (aa (vI 0) (ah ?_)))))))
  obtain ⟨Y,H,g⟩:=bind_some g
  obtain ⟨N,H⟩:=aS H
  refine bH (λ(q:Unit)=>[]) (λ(q:Unit)=>[]) (λ(c:Nat)=>(λ(q:Unit)=>[(0,(vL Beat.enc b)),(8,(vL Beat.enc b)),(9,(vI (b.length:Int))),(10,(vI (c:Int)))])) (λk x s=>kg b k x s) Y b () H rfl (aG rfl) ?_ ?_
  ·rintro ⟨c,I,q⟩ ⟨h,n⟩
   dsimp only at h n
   cases I with
   | nil =>
    obtain rfl:=ae h
    refine ai (aa (vB (decide ((c:Int)<(b.length:Int)))) (ah ?_))
    refine ak (ay rfl (drop_nil n) (aX ?_))
    exact aU (q) rfl rfl (aG rfl)
   | cons e I =>
    obtain ⟨Ä,a,h⟩:=bind_some h
    refine ai (aa (vB (decide ((c:Int)<(b.length:Int)))) (ah ?_))
    refine ak (aA rfl (aZ n) (av ?_))
    unfold kg at a
    refine ak (aK (ai (aa (vI (c:Int)) (dK JQ rfl rfl (bz n) rfl wz (bK Jh OQ rfl (.d (.agg (Beat.enc e))) rfl wz (bZ 0 (.inl rfl) z122 rfl wz (λp=>aa (vI (c:Int)) (gp 0 il ft 0 Jh rfl rfl (Beat.v e) rfl wz (ah (aK (ai (aH AL rfl 0 rfl wz (aC 0 0 il ft sz9 ag9 rfl rfl (vS e.Player) rfl wz ?_)))))))))))))
    obtain ⟨L,P,a⟩:=bind_some a
    refine aD (gX P) rfl DY rfl rfl rfl rfl wz (aa (vB (!L)) (aa (vB (!L)) (ah ?_)))
    rcases aj a with⟨w,a⟩|⟨w,a⟩
    ·refine aA rfl w (ai (aa (vI 5) (ah ?_)))
     obtain rfl:=ae a
     obtain rfl:=ae h
     obtain rfl:=ae g
     exact aB (aM [(vI 5)] ⟨rfl,trivial⟩)
    ·refine ay rfl w (ak ?_)
     obtain ⟨À,i,a⟩:=bind_some a
     refine aR [(0,(vL Beat.enc b)),(3,(vI (c:Int))),(4,(.ref p 0 0)),(8,(vL Beat.enc b)),(9,(vI (b.length:Int))),(10,(vI (c:Int))),(20,(vB À))] [(p,some (.cells 3 (Beat.v e)))] ?_ ?_
     ·refine au (aH Dl rfl 1 rfl wz (aC 0 0 il ft sz3 ag3 rfl rfl (vI e.At) rfl wz ?_))
      obtain ⟨Z,Q,i⟩:=bind_some i
      refine aD (gM Q) rfl IV rfl rfl rfl rfl wz (aa (vB (!Z)) ?_)
      rcases aj i with⟨z,i⟩|⟨z,i⟩
      ·refine aF rfl z wz (af (af (af (aa (vB true) (aa (vB true) (ah ?_))))))
       obtain rfl:=ae i
       exact cu
      ·refine aF rfl z wz (aH CU rfl 2 rfl wa (aC 0 0 il ft sz3 ag3 rfl rfl (vI e.Clock) rfl wa ?_))
       obtain ⟨M,R,i⟩:=bind_some i
       refine aD (bI R) rfl uO rfl rfl rfl rfl wa (aa (vB M) (aa (vB M) (ah ?_)))
       obtain rfl:=ae i
       exact cu
     ·rintro ⟨⟩ _ K u l m
      refine aN _ l m ?_
      rcases aj a with⟨A,a⟩|⟨A,a⟩
      ·refine aA rfl A (ai (aa (vI 1) (ah ?_)))
       obtain rfl:=ae a
       obtain rfl:=ae h
       obtain rfl:=ae g
       exact aB (aM [(vI 1)] ⟨rfl,trivial⟩)
      ·refine ay rfl A (ak ?_)
       obtain ⟨Á,j,a⟩:=bind_some a
       refine aR [(0,(vL Beat.enc b)),(3,(vI (c:Int))),(4,(.ref p 0 0)),(8,(vL Beat.enc b)),(9,(vI (b.length:Int))),(10,(vI (c:Int))),(30,(vB Á))] [(p,some (.cells 3 (Beat.v e)))] ?_ ?_
       ·refine bv (aa (vI (c:Int)) (aa (vB (decide ((c:Int)>0))) ?_))
        rcases aj j with⟨B,j⟩|⟨B,j⟩
        ·refine aF rfl B wz (aJ (vL Beat.enc b) wa rfl (aJ (vI (c:Int)) wa rfl (aJ (vI (w64 ((c:Int)-1))) wa rfl ?_)))
         obtain ⟨Ã,U,j⟩:=bind_some j
         refine dK JQ rfl rfl U rfl wa (bK Jh OQ rfl (.d (.agg (Beat.enc Ã))) rfl wa (aC 8 0 (.inr (by kernel_rfl)) (λ_ _ ag=>trivial) Jh OQ rfl rfl (.d (.agg (Beat.enc e))) rfl wa ?_))
         obtain ⟨J,T,j⟩:=bind_some j
         refine aD (zo T) rfl hb174 rfl rfl rfl rfl wa (aJ (vB (decide (J>=0))) wa rfl (aa (vB (decide (J>=0))) (aa (vB (decide (J>=0))) (ah ?_))))
         obtain rfl:=ae j
         exact cu
        ·refine aF rfl B wz (af (af (af (af (af (af (af (af (aa (vB false) (aa (vB false) (ah ?_)))))))))))
         obtain rfl:=ae j
         exact cu
       ·rintro ⟨⟩ _ K u l m
        refine aN _ l m ?_
        rcases aj a with⟨C,a⟩|⟨C,a⟩
        ·refine aA rfl C (ai (aa (vI 7) (ah ?_)))
         obtain rfl:=ae a
         obtain rfl:=ae h
         obtain rfl:=ae g
         exact aB (aM [(vI 7)] ⟨rfl,trivial⟩)
        ·refine ay rfl C (ak ?_)
         obtain ⟨Â,f,a⟩:=bind_some a
         refine aR [(0,(vL Beat.enc b)),(8,(vL Beat.enc b)),(9,(vI (b.length:Int))),(10,(vI (c:Int))),(43,(vB Â))] [(p,some (.cells 3 (Beat.v e)))] ?_ ?_
         ·refine bv (aa (vI (c:Int)) (aa (vB (decide ((c:Int)>0))) ?_))
          rcases aj f with⟨E,f⟩|⟨E,f⟩
          ·refine aF rfl E wz (aH AL rfl 0 rfl wa (aC 4 0 (.inr (by kernel_rfl)) (λ_ _ ag=>trivial) sz9 ag9 rfl rfl (vS e.Player) rfl wa (aJ (vL Beat.enc b) wa rfl (aJ (vI (c:Int)) wa rfl (aJ (vI (w64 ((c:Int)-1))) wa rfl ?_)))))
           obtain ⟨o,W,f⟩:=bind_some f
           refine dK JQ rfl rfl W rfl wa (uJ AL rfl [.str o.Player,.int .i64 o.At,.int .i64 o.Clock] rfl rfl wa (bK sz9 ag9 rfl (vS o.Player) rfl wa (aJ (vB (sEq e.Player o.Player)) wa rfl (aa (vB (sEq e.Player o.Player)) ?_))))
           rcases aj f with⟨F,f⟩|⟨F,f⟩
           ·refine aF rfl F wz (aH CU rfl 2 rfl wa (aC 15 0 (.inr (by kernel_rfl)) (λ_ _ ag=>⟨.inl ⟨rfl,rfl⟩,trivial⟩) sz3 ag3 rfl rfl (vI e.Clock) rfl wa (aJ (vL Beat.enc b) wa rfl (aJ (vI (c:Int)) wa rfl (aJ (vI (w64 ((c:Int)-1))) wa rfl ?_)))))
            obtain ⟨t,X,f⟩:=bind_some f
            refine dK JQ rfl rfl X rfl wa (uJ CU rfl [.int .i64 t.Clock] rfl rfl wa (bK sz3 ag3 rfl (vI t.Clock) rfl wa (aJ (vB (decide (e.Clock<=t.Clock))) wa rfl (aa (vB (decide (e.Clock<=t.Clock))) (aa (vB (decide (e.Clock<=t.Clock))) (ah ?_))))))
            obtain rfl:=ae f
            exact cu
           ·refine aF rfl F wz (af (af (af (af (af (af (af (af (af (aa (vB false) (aa (vB false) (ah ?_))))))))))))
            obtain rfl:=ae f
            exact cu
          ·refine aF rfl E wz (af (af (af (af (af (af (af (af (af (aa (vB false) (aa (vB false) (af (af (af (af (af (af (af (af (af (aa (vB false) (aa (vB false) (ah ?_)))))))))))))))))))))))
           obtain rfl:=ae f
           exact cu
         ·rintro ⟨⟩ _ K u l m
          refine aN _ l m ?_
          rcases aj a with⟨G,a⟩|⟨G,a⟩
          ·refine aA rfl G (ai (aa (vI 16) (ah ?_)))
           obtain rfl:=ae a
           obtain rfl:=ae h
           obtain rfl:=ae g
           exact aB (aM [(vI 16)] ⟨rfl,trivial⟩)
          ·refine ay rfl G (av (au (dx (bf n N) wz rfl (aa (vI ((c+1:Nat):Int)) (ah ?_)))))
           obtain rfl:=ae a
           exact aV (c+1,I,()) ⟨h,aP n⟩ (ls_ _) rfl (aG rfl)
  ·rintro q O K u l m
   subst O
   refine aN _ l m (ai (aa (vI 0) (ah ?_)))
   obtain rfl:=ae g
   exact aB (aM [(vI 0)] ⟨rfl,trivial⟩)
theorem D6 {f:(List Beat)} {g:ByteArray} {h:Bool} {r:(List Beat_)} (o:sU f g h=some r) :
  FnM Tryz.prog 146 [(vL Beat.enc f),(vS g),(vB h)] [] (vL Beat_.enc r) []:=by
 refine FnM.of_wH ⟨Tryz.prog,41,[],[]⟩ rfl Tryz.func146 rfl rfl (lb_ rfl) (by kernel_rfl) ?_
 unfold sU at o
 refine ai (aa .nil (ah (ai (aa .nil (ah (ak (ai (aa (vL Beat.enc f) (bJ RB rfl wz (aa (vI 0) (ah (jl (λM => ?_)))))))))))))
 obtain ⟨P,w,o⟩:=bind_some o
 obtain ⟨I,w⟩:=aS w
 refine gq (σ:=(List Beat_)) (N:=Nm) (λp=>(λ(e:List Beat_) (c:Nm)=>([(7,(gV c 2 e))]:SL_)) p.1 p.2) (λp=>(λ(e:List Beat_) (c:Nm)=>([(c,gB 2 Beat_.enc e)]:Hp)) p.1 p.2) (λ(j:Nat)=>(λp=>(λ(e:List Beat_) (c:Nm)=>([(1,(vS g)),(2,(vB h)),(7,(gV c 2 e)),(10,(vL Beat.enc f)),(11,(vI (f.length:Int))),(12,(vI (j:Int)))]:SL_)) p.1 p.2)) (λk x s=>sM g h k x s) P f (([]:List Beat_),M) w rfl (aG rfl) ?_ ?_
 ·rintro ⟨j,A,e,c⟩ ⟨m,l⟩
  dsimp only at m l
  cases A with
  | nil =>
   obtain rfl:=ae m
   refine ai (aa (vB (decide ((j:Int)<(f.length:Int)))) (ah ?_))
   refine ak (ay rfl (drop_nil l) (aX ?_))
   exact aU (e,c) rfl rfl (aG rfl)
  | cons a A =>
   obtain ⟨R,q,m⟩:=bind_some m
   refine ai (aa (vB (decide ((j:Int)<(f.length:Int)))) (ah ?_))
   refine ak (aA rfl (aZ l) (av ?_))
   unfold sM at q
   refine ak (aK (ai (dK JQ rfl rfl (bz l) rfl wz (bK Jh OQ rfl (.d (.agg (Beat.enc a))) rfl wz (bZ 0 (.inl rfl) z122 rfl wz (λO=>gp 0 il ft 1 Jh rfl rfl (Beat.v a) rfl wz (ah (aK (ai (aH AL rfl 0 rfl wz (aC 0 1 il ft sz9 ag9 rfl rfl (vS a.Player) rfl wz (aa (vS g) (aa (vB (sNe a.Player g)) (aa (vB (sNe a.Player g)) (ah ?_)))))))))))))))
   obtain ⟨B,b,q⟩:=bind_some q
   refine kT (β:=Nm) (λ(n:Nm)=>([(1,(vS g)),(2,(vB h)),(7,(gV n 2 B)),(10,(vL Beat.enc f)),(11,(vI (f.length:Int))),(12,(vI (j:Int)))]:SL_)) (λ(n:Nm)=>([(n,gB 2 Beat_.enc B),(O,some (.cells 3 (Beat.v a)))]:Hp)) (λ_=>True) ?_ ?_
   ·rcases aj b with⟨t,b⟩|⟨t,b⟩
    ·refine aA rfl t (av ?_)
     obtain rfl:=ae b
     exact aU c trivial rfl (aG rfl)
    ·refine ay rfl t (ai (aa (vB h) (aa (vB h) (ah ?_))))
     rcases aj b with⟨u,b⟩|⟨u,b⟩
     ·refine aA rfl u (au (aa (gV c 2 e) (aH Dl rfl 1 rfl wz (aC 0 1 il ft sz3 ag3 rfl rfl (vI a.At) rfl wz (aH CU rfl 2 rfl wz (aC 0 1 il ft sz3 ag3 rfl rfl (vI a.Clock) rfl wz (aJ (.d (.agg (Beat_.enc (⟨a.At,a.Clock⟩:Beat_)))) wz (by kernel_rfl) (dW (([(⟨a.At,a.Clock⟩:Beat_)]:List Beat_).map Beat_.enc) CB ez207 rfl rfl rfl rfl rfl wz ?_))))))))
      obtain ⟨G,K,b⟩:=bind_some b
      refine lh 0 il ft (i:=0) O8 O8 JD z241 rfl (by decide) by241 (by decide) (λ_=>rfl) rfl rfl rfl K wz (λC=>aa (gV C 2 G) (ah ?_))
      obtain rfl:=ae b
      exact aU C trivial rfl (aG rfl)
     ·refine ay rfl u (au (aa (gV c 2 e) (aH CU rfl 2 rfl wz (aC 0 1 il ft sz3 ag3 rfl rfl (vI a.Clock) rfl wz (aH Dl rfl 1 rfl wz (aC 0 1 il ft sz3 ag3 rfl rfl (vI a.At) rfl wz (aJ (.d (.agg (Beat_.enc (⟨a.Clock,a.At⟩:Beat_)))) wz (by kernel_rfl) (dW (([(⟨a.Clock,a.At⟩:Beat_)]:List Beat_).map Beat_.enc) CB ez207 rfl rfl rfl rfl rfl wz ?_))))))))
      obtain ⟨H,L,b⟩:=bind_some b
      refine lh 0 il ft (i:=0) O8 O8 JD z241 rfl (by decide) by241 (by decide) (λ_=>rfl) rfl rfl rfl L wz (λE=>aa (gV E 2 H) (ah ?_))
      obtain rfl:=ae b
      exact aU E trivial rfl (aG rfl)
   ·rintro n _ Q F y z
    refine aN _ y z (au (dx (bf l I) wz rfl (aa (vI ((j+1:Nat):Int)) (ah ?_))))
    obtain rfl:=ae q
    exact aV (j+1,A,B,n) ⟨m,aP l⟩ (ls_ _) rfl (aG rfl)
 ·rintro ⟨e,c⟩ J Q F y z
  subst J
  refine aN _ y z (ai (aa (gV c 2 e) (aa (gV c 2 e) (ah (jP 0 rfl (fI 6 0 rfl rfl (fI 7 0 rfl rfl (fI 40 0 rfl rfl ?_))))))))
  obtain rfl:=ae o
  exact aB (aM [(vL Beat_.enc e)] ⟨rfl,trivial⟩)
theorem Fz {f:(List Beat_)} {b:Int} {r:Int×Int} (a:qW f b=some r) :
  FnM Tryz.prog 145 [(vL Beat_.enc f),(vI b)] [] (.tup [(vI r.1),(vI r.2)]) []:=by
 refine FnM.of_wH ⟨Tryz.prog,108,[],[]⟩ rfl Tryz.func145 rfl rfl (lb_ rfl) (by kernel_rfl) ?_
 unfold qW at a
 refine ai (aa (vI 0) (aa (vI 0) (ah (ak (ai (aa (vL Beat_.enc f) (bJ Rq rfl wz (aa (vB ((f.length:Int)==0)) (ah ?_)))))))))
 rcases aj a with⟨B,a⟩|⟨B,a⟩
 ·refine aA rfl B (ai (aa (vI 0) (aa (vI 8) (ah ?_))))
  obtain rfl:=ae a
  exact aB (aM [(vI 0),(vI 8)] ⟨rfl,⟨rfl,trivial⟩⟩)
 ·refine ay rfl B (av (ai (aa (vI 0) (ah (ak ?_)))))
  obtain ⟨Á,H,a⟩:=bind_some a
  obtain ⟨À,H⟩:=dF H
  refine eU (λ(c:Int)=>[(0,(vL Beat_.enc f)),(1,(vI b)),(6,(vI c))]) (λ(c:Int)=>[]) (λ(v:Nat)=>(λ(c:Int)=>[(0,(vL Beat_.enc f)),(1,(vI b)),(6,(vI c))])) (λs=>ql f b s) Á À 0 H rfl (aG rfl) ?_ ?_
  ·rintro ⟨v,c⟩ n
   dsimp only at n
   cases v with
   | zero=>cases n
   | succ v =>
    obtain ⟨Ç,k,n⟩:=bind_some n
    unfold ql at k
    refine ak (ak ?_)
    obtain ⟨Å,m,k⟩:=bind_some k
    refine aR [(0,(vL Beat_.enc f)),(1,(vI b)),(6,(vI c)),(25,(vB Å))] [] ?_ ?_
    ·refine au (aa (vI c) (aa (vL Beat_.enc f) (bJ Rq rfl wz (aa (vB (decide (c<(f.length:Int)))) ?_))))
     rcases aj m with⟨w,m⟩|⟨w,m⟩
     ·refine aF rfl w wz (aJ (vL Beat_.enc f) wa rfl (aJ (vI c) wa rfl ?_))
      obtain ⟨u,Q,m⟩:=bind_some m
      refine dK CB rfl rfl Q rfl wa (uJ wR rfl [.int .i64 u.f_from,.int .i64 u.f_to] rfl rfl wa (bK sz3 ag3 rfl (vI u.f_from) rfl wa (aJ (vI b) wa rfl (aJ (vB (decide (u.f_from<=b))) wa rfl (aa (vB (decide (u.f_from<=b))) (ah ?_))))))
      obtain rfl:=ae m
      exact cu
     ·refine aF rfl w wz (af (af (af (af (af (af (af (aa (vB false) (ah ?_)))))))))
      obtain rfl:=ae m
      exact cu
    ·rintro ⟨⟩ _ L I q t
     refine aN _ q t ?_
     rcases aj k with⟨x,k⟩|⟨x,k⟩
     ·refine aA rfl x (av (aK (au (aa (vI c) (aa (vI (w64 (c+1))) (aa (vI (w64 (c+1))) (ah ?_)))))))
      obtain rfl:=ae k
      exact aV (v,(w64 (c+1))) n (ls_ _) rfl (aG rfl)
     ·refine ay rfl x (aX ?_)
      obtain rfl:=ae k
      obtain rfl:=ae n
      exact aU (c) rfl rfl (aG rfl)
  ·rintro c M L I q t
   subst M
   refine aN _ q t (ai (aa (vI 0) (ah (ak (aK (ai (aa (vI c) (aa (vB (c==0)) (aa (vB (c==0)) (ah ?_))))))))))
   rcases aj a with⟨y,a⟩|⟨y,a⟩
   ·refine aA rfl y (bv (aa (vL Beat_.enc f) ?_))
    obtain ⟨l,R,a⟩:=bind_some a
    refine dK CB rfl rfl R rfl wz (uJ yU rfl [.int .i64 l.f_to] rfl rfl wz (bK sz3 ag3 rfl (vI l.f_to) rfl wz (aa (vL Beat_.enc f) ?_)))
    obtain ⟨h,T,a⟩:=bind_some a
    refine dK CB rfl rfl T rfl wz (uJ wR rfl [.int .i64 h.f_from,.int .i64 h.f_to] rfl rfl wz (bK sz3 ag3 rfl (vI h.f_from) rfl wz (aa (vI b) (aa (vI (w64 (h.f_from-b))) (aa (vI (w64 (l.f_to-(w64 (h.f_from-b))))) (aa (vI (w64 (l.f_to-(w64 (h.f_from-b))))) (ah (ak (ai (aa (vI (w64 (l.f_to-(w64 (h.f_from-b))))) ?_))))))))))
    obtain ⟨Â,N,a⟩:=bind_some a
    refine aD (gM N) rfl IV rfl rfl rfl rfl wz (aa (vB (!Â)) (ah ?_))
    rcases aj a with⟨z,a⟩|⟨z,a⟩
    ·refine aA rfl z (ai (aa (vI 0) (aa (vI 11) (ah ?_))))
     obtain rfl:=ae a
     exact aB (aM [(vI 0),(vI 11)] ⟨rfl,⟨rfl,trivial⟩⟩)
    ·refine ay rfl z (av (ai (aa (vI (w64 (l.f_to-(w64 (h.f_from-b))))) (aa (vI (w64 (l.f_to-(w64 (h.f_from-b))))) (aa (vI 0) (ah ?_))))))
     obtain rfl:=ae a
     exact aB (aM [(vI (w64 (l.f_to-(w64 (h.f_from-b))))),(vI 0)] ⟨rfl,⟨rfl,trivial⟩⟩)
   ·refine ay rfl y (ai (aa (vI c) (aa (vL Beat_.enc f) (bJ Rq rfl wz (aa (vB (c==(f.length:Int))) (aa (vB (c==(f.length:Int))) (ah ?_)))))))
    rcases aj a with⟨A,a⟩|⟨A,a⟩
    ·refine aA rfl A (bv (aa (vL Beat_.enc f) (aa (vI c) (aa (vI (w64 (c-1))) ?_))))
     obtain ⟨i,U,a⟩:=bind_some a
     refine dK CB rfl rfl U rfl wz (uJ yU rfl [.int .i64 i.f_to] rfl rfl wz (bK sz3 ag3 rfl (vI i.f_to) rfl wz (aa (vI b) (aa (vI (w64 (i.f_to+b))) (aa (vL Beat_.enc f) (aa (vI c) (aa (vI (w64 (c-1))) ?_)))))))
     obtain ⟨j,W,a⟩:=bind_some a
     refine dK CB rfl rfl W rfl wz (uJ wR rfl [.int .i64 j.f_from,.int .i64 j.f_to] rfl rfl wz (bK sz3 ag3 rfl (vI j.f_from) rfl wz (aa (vI (w64 ((w64 (i.f_to+b))-j.f_from))) (aa (vI (w64 ((w64 (i.f_to+b))-j.f_from))) (ah (ak (ai (aa (vI (w64 ((w64 (i.f_to+b))-j.f_from))) ?_))))))))
     obtain ⟨Ã,O,a⟩:=bind_some a
     refine aD (gM O) rfl IV rfl rfl rfl rfl wz (aa (vB (!Ã)) (ah ?_))
     rcases aj a with⟨C,a⟩|⟨C,a⟩
     ·refine aA rfl C (ai (aa (vI 0) (aa (vI 11) (ah (aN (H0:=([]:Hp)) ([(4,(vI 0)),(5,(vI 11))]:SL_) (by kernel_rfl) (yN (by kernel_rfl)) ?_)))))
      obtain rfl:=ae a
      exact aB (aM [(vI 0),(vI 11)] ⟨rfl,⟨rfl,trivial⟩⟩)
     ·refine ay rfl C (av (ai (aa (vI (w64 ((w64 (i.f_to+b))-j.f_from))) (aa (vI (w64 ((w64 (i.f_to+b))-j.f_from))) (aa (vI 0) (ah (aN (H0:=([]:Hp)) ([(4,(vI (w64 ((w64 (i.f_to+b))-j.f_from)))),(5,(vI 0))]:SL_) (by kernel_rfl) (yN (by kernel_rfl)) ?_)))))))
      obtain rfl:=ae a
      exact aB (aM [(vI (w64 ((w64 (i.f_to+b))-j.f_from))),(vI 0)] ⟨rfl,⟨rfl,trivial⟩⟩)
    ·refine ay rfl A (ak (bv (aa (vL Beat_.enc f) (aa (vI c) (aa (vI (w64 (c-1))) ?_)))))
     obtain ⟨e,X,a⟩:=bind_some a
     refine dK CB rfl rfl X rfl wz (bK JD ag241 rfl (.d (.agg (Beat_.enc e))) rfl wz (aa (vL Beat_.enc f) (aa (vI c) ?_)))
     obtain ⟨g,Y,a⟩:=bind_some a
     refine dK CB rfl rfl Y rfl wz (bK JD ag241 rfl (.d (.agg (Beat_.enc g))) rfl wz (bZ 9 (.inr (by kernel_rfl)) z241 rfl wz (λJ=>bZ 10 (.inr (by kernel_rfl)) z241 rfl wz (λK=>gp 11 (.inr (by kernel_rfl)) (λ_ _ ag=>⟨.inr (.inr (by kernel_rfl)),⟨.inr (.inr (by kernel_rfl)),trivial⟩⟩) 0 JD rfl rfl [(vI e.f_from),(vI e.f_to)] rfl wz (gp 12 (.inr (by kernel_rfl)) (λ_ _ ag=>⟨.inr (.inr (by kernel_rfl)),⟨.inr (.inr (by kernel_rfl)),⟨.inr (.inr (by kernel_rfl)),trivial⟩⟩⟩) 1 JD rfl rfl [(vI g.f_from),(vI g.f_to)] rfl wz (ah (ak (ak ?_))))))))
     obtain ⟨Æ,p,a⟩:=bind_some a
     refine aR [(1,(vI b)),(8,(.ref J 0 0)),(9,(.ref K 0 0)),(50,(vB Æ))] [(J,some (.cells 2 [(vI e.f_from),(vI e.f_to)])),(K,some (.cells 2 [(vI g.f_from),(vI g.f_to)]))] ?_ ?_
     ·refine au (aH wR rfl 0 rfl wz (aC 0 1 il ft sz3 ag3 rfl rfl (vI g.f_from) rfl wz (aH wR rfl 0 rfl wz (aC 0 0 il ft sz3 ag3 rfl rfl (vI e.f_from) rfl wz (aa (vI (w64 (g.f_from-e.f_from))) (aa (vB (decide ((w64 (g.f_from-e.f_from))>2592000000))) ?_))))))
      rcases aj p with⟨E,p⟩|⟨E,p⟩
      ·refine aF rfl E wz (af (af (af (af (af (af (aa (vB true) (ah ?_))))))))
       obtain rfl:=ae p
       exact cu
      ·refine aF rfl E wz (aH yU rfl 1 rfl wa (aC 0 1 il ft sz3 ag3 rfl rfl (vI g.f_to) rfl wa (aH yU rfl 1 rfl wa (aC 0 0 il ft sz3 ag3 rfl rfl (vI e.f_to) rfl wa (aJ (vI (w64 (g.f_to-e.f_to))) wa rfl (aJ (vB (decide ((w64 (g.f_to-e.f_to))>2592000000))) wa rfl (aa (vB (decide ((w64 (g.f_to-e.f_to))>2592000000))) (ah ?_))))))))
       obtain rfl:=ae p
       exact cu
     ·rintro ⟨⟩ _ L I q t
      refine aN _ q t ?_
      rcases aj a with⟨F,a⟩|⟨F,a⟩
      ·refine aA rfl F (ai (aa (vI 0) (aa (vI 2) (ah ?_))))
       obtain rfl:=ae a
       exact aB (aM [(vI 0),(vI 2)] ⟨rfl,⟨rfl,trivial⟩⟩)
      ·refine ay rfl F (av (bv (aH yU rfl 1 rfl wz (aC 1 0 (.inr (by kernel_rfl)) (λ_ _ ag=>trivial) sz3 ag3 rfl rfl (vI e.f_to) rfl wz (aa (vI b) (aH wR rfl 0 rfl wz (aC 4 0 (.inr (by kernel_rfl)) (λ_ _ ag=>⟨.inl ⟨rfl,rfl⟩,trivial⟩) sz3 ag3 rfl rfl (vI e.f_from) rfl wz (aa (vI (w64 (b-e.f_from))) (aH yU rfl 1 rfl wz (aC 7 1 (.inr (by kernel_rfl)) (λ_ _ ag=>⟨.inl ⟨rfl,rfl⟩,⟨.inl ⟨rfl,rfl⟩,trivial⟩⟩) sz3 ag3 rfl rfl (vI g.f_to) rfl wz (aH yU rfl 1 rfl wz (aC 9 0 (.inr (by kernel_rfl)) (λ_ _ ag=>⟨.inl ⟨rfl,rfl⟩,⟨.inl ⟨rfl,rfl⟩,⟨.inl ⟨rfl,rfl⟩,trivial⟩⟩⟩) sz3 ag3 rfl rfl (vI e.f_to) rfl wz (aa (vI (w64 (g.f_to-e.f_to))) (aa (vI (w64 ((w64 (b-e.f_from))*(w64 (g.f_to-e.f_to))))) (aH wR rfl 0 rfl wz (aC 13 1 (.inr (by kernel_rfl)) (λ_ _ ag=>⟨.inl ⟨rfl,rfl⟩,⟨.inl ⟨rfl,rfl⟩,⟨.inl ⟨rfl,rfl⟩,⟨.inl ⟨rfl,rfl⟩,trivial⟩⟩⟩⟩) sz3 ag3 rfl rfl (vI g.f_from) rfl wz (aH wR rfl 0 rfl wz (aC 15 0 (.inr (by kernel_rfl)) (λ_ _ ag=>⟨.inl ⟨rfl,rfl⟩,⟨.inl ⟨rfl,rfl⟩,⟨.inl ⟨rfl,rfl⟩,⟨.inl ⟨rfl,rfl⟩,⟨.inl ⟨rfl,rfl⟩,trivial⟩⟩⟩⟩⟩) sz3 ag3 rfl rfl (vI e.f_from) rfl wz (aa (vI (w64 (g.f_from-e.f_from))) ?_)))))))))))))))))))
       obtain ⟨o,Z,a⟩:=bind_some a
       refine SA rfl rfl Z wz (aa (vI (w64 (e.f_to+o))) (aa (vI (w64 (e.f_to+o))) (ah (ak (ai (aa (vI (w64 (e.f_to+o))) ?_))))))
       obtain ⟨Ä,P,a⟩:=bind_some a
       refine aD (gM P) rfl IV rfl rfl rfl rfl wz (aa (vB (!Ä)) (ah ?_))
       rcases aj a with⟨G,a⟩|⟨G,a⟩
       ·refine aA rfl G (ai (aa (vI 0) (aa (vI 11) (ah ?_))))
        obtain rfl:=ae a
        exact aB (aM [(vI 0),(vI 11)] ⟨rfl,⟨rfl,trivial⟩⟩)
       ·refine ay rfl G (av (ai (aa (vI (w64 (e.f_to+o))) (aa (vI (w64 (e.f_to+o))) (aa (vI 0) (ah ?_))))))
        obtain rfl:=ae a
        exact aB (aM [(vI (w64 (e.f_to+o))),(vI 0)] ⟨rfl,⟨rfl,trivial⟩⟩)
theorem GG {d:(List Beat)} {f:ByteArray} {e:Int} {g:Bool} {r:Int×Int} (a:uh d f e g=some r) :
  FnM Tryz.prog 96 [(vL Beat.enc d),(vS f),(vI e),(vB g)] [] (.tup [(vI r.1),(vI r.2)]) []:=by
 refine FnM.of_wH ⟨Tryz.prog,30,[],[]⟩ rfl Tryz.func96 rfl rfl (lb_ rfl) (by kernel_rfl) ?_
 unfold uh at a
 refine ai (aa (vI 0) (aa (vI 0) (ah (ak (ai (aa (vL Beat.enc d) ?_))))))
 obtain ⟨c,n,a⟩:=bind_some a
 refine aD (Bc n) rfl hb144 rfl rfl rfl rfl wz (aa (vI c) (ah (ai (aa (vI c) (aa (vB (c != 0)) (ah ?_))))))
 rcases aj a with⟨j,a⟩|⟨j,a⟩
 ·refine aA rfl j (ai (aa (vI c) (aa (vI 0) (aa (vI c) (ah ?_)))))
  obtain rfl:=ae a
  exact aB (aM [(vI 0),(vI c)] ⟨rfl,⟨rfl,trivial⟩⟩)
 ·refine ay rfl j (av (ak (ai (aa (vS f) ?_))))
  obtain ⟨q,o,a⟩:=bind_some a
  refine aD (gX o) rfl DY rfl rfl rfl rfl wz (aa (vB (!q)) (ah ?_))
  rcases aj a with⟨h,a⟩|⟨h,a⟩
  ·refine aA rfl h (ai (aa (vI 0) (aa (vI 5) (ah ?_))))
   obtain rfl:=ae a
   exact aB (aM [(vI 0),(vI 5)] ⟨rfl,⟨rfl,trivial⟩⟩)
  ·refine ay rfl h (av (ak (ai (aa (vI e) ?_))))
   obtain ⟨p,k,a⟩:=bind_some a
   refine aD (gM k) rfl IV rfl rfl rfl rfl wz (aa (vB (!p)) (ah ?_))
   rcases aj a with⟨i,a⟩|⟨i,a⟩
   ·refine aA rfl i (ai (aa (vI 0) (aa (vI 1) (ah ?_))))
    obtain rfl:=ae a
    exact aB (aM [(vI 0),(vI 1)] ⟨rfl,⟨rfl,trivial⟩⟩)
   ·refine ay rfl i (av (ai (aa (vL Beat.enc d) (aa (vS f) (aa (vB g) ?_)))))
    obtain ⟨s,l,a⟩:=bind_some a
    refine aD (D6 l) rfl hb146 rfl rfl rfl rfl wz (aa (vI e) ?_)
    obtain ⟨b,m,a⟩:=bind_some a
    refine aD (Fz m) rfl hb145 rfl rfl rfl rfl wz (aa (vI b.1) (aa (vI b.2) (aa (vI b.1) (aa (vI b.2) (ah ?_)))))
    obtain rfl:=ae a
    exact aB (aM [(vI b.1),(vI b.2)] ⟨rfl,⟨rfl,trivial⟩⟩)
theorem Gv {d:(List Beat)} {e:ByteArray} {c:Int} {r:Int×Int} (b:tX d e c=some r) :
  FnM Tryz.prog 61 [(vL Beat.enc d),(vS e),(vI c)] [] (.tup [(vI r.1),(vI r.2)]) []:=by
 refine FnM.of_wH ⟨Tryz.prog,14,[],[]⟩ rfl Tryz.func61 rfl rfl (lb_ rfl) (by kernel_rfl) ?_
 unfold tX at b
 refine ai (aa (vI 0) (aa (vI 0) (ah (ai (aa (vL Beat.enc d) (aa (vS e) (aa (vI c) ?_)))))))
 obtain ⟨a,f,b⟩:=bind_some b
 refine aD (GG f) rfl hb96 rfl rfl rfl rfl wz (aa (vI a.1) (aa (vI a.2) (aa (vI a.1) (aa (vI a.2) (ah ?_)))))
 obtain rfl:=ae b
 exact aB (aM [(vI a.1),(vI a.2)] ⟨rfl,⟨rfl,trivial⟩⟩)
theorem EF {b:Alert} {c:Post} {r:Bool×Int} (a:pY b c=some r) :
  FnM Tryz.prog 62 [(.d (.agg (Alert.enc b))),(.d (.agg (Post.enc c)))] [] (.tup [(vB r.1),(vI r.2)]) []:=by
 refine FnM.of_wH ⟨Tryz.prog,18,[],[]⟩ rfl Tryz.func62 rfl rfl (lb_ rfl) (by kernel_rfl) ?_
 unfold pY at a
 refine ai (eT 0 (.inl rfl) (Alert.v b) rfl rfl wz (λj=>eT 0 (.inl rfl) (Post.v c) rfl rfl wz (λk=>aa (vB false) (aa (vI 0) (ah (ak (ai (aC 0 0 il ft fJ jZ rfl rfl (.d (.agg (Alert.enc b))) rfl wz (dW (([b]:List Alert).map Alert.enc) mH Qv rfl rfl rfl rfl rfl wz (aC 0 1 il ft BZ Ii rfl rfl (.d (.agg (Post.enc c))) rfl wz (dW (([c]:List Post).map Post.enc) MU ez28 rfl rfl rfl rfl rfl wz ?_)))))))))))
 obtain ⟨e,h,a⟩:=bind_some a
 refine aD (qz h) rfl hb54 rfl rfl rfl rfl wz (aa (vI e) (ah (ai (aa (vI e) (aa (vB (e != 0)) (ah ?_))))))
 rcases aj a with⟨f,a⟩|⟨f,a⟩
 ·refine aA rfl f (ai (aa (vI e) (aa (vB false) (aa (vI e) (ah ?_)))))
  obtain rfl:=ae a
  exact aB (aM [(vB false),(vI e)] ⟨rfl,⟨rfl,trivial⟩⟩)
 ·refine ay rfl f (av (ai (aC 0 0 il ft fJ jZ rfl rfl (.d (.agg (Alert.enc b))) rfl wz (aC 0 1 il ft BZ Ii rfl rfl (.d (.agg (Post.enc c))) rfl wz ?_))))
  obtain ⟨g,i,a⟩:=bind_some a
  refine aD (sH i) rfl hb79 rfl rfl rfl rfl wz (aa (vB g) (aa (vI 0) (ah ?_)))
  obtain rfl:=ae a
  exact aB (aM [(vB g),(vI 0)] ⟨rfl,⟨rfl,trivial⟩⟩)
theorem J7 {a:(List Int)} {r:Int} (g:AQ a=some r) :
  FnM Tryz.prog 63 [(vL eI a)] [] (vI r) []:=by
 refine FnM.of_wH ⟨Tryz.prog,15,[],[]⟩ rfl Tryz.func63 rfl rfl (lb_ rfl) (by kernel_rfl) ?_
 unfold AQ at g
 refine ai (aa (vI 0) (ah (ak (ai (aa (vL eI a) (bJ un162 rfl wz (aa (vI 0) (ah ?_))))))))
 obtain ⟨q,j,g⟩:=bind_some g
 obtain ⟨m,j⟩:=aS j
 refine bH (λ(h:Unit)=>[]) (λ(h:Unit)=>[]) (λ(f:Nat)=>(λ(h:Unit)=>[(5,(vL eI a)),(6,(vI (a.length:Int))),(7,(vI (f:Int)))])) (λk x s=>yJ k x s) q a () j rfl (aG rfl) ?_ ?_
 ·rintro ⟨f,l,h⟩ ⟨d,c⟩
  dsimp only at d c
  cases l with
  | nil =>
   obtain rfl:=ae d
   refine ai (aa (vB (decide ((f:Int)<(a.length:Int)))) (ah ?_))
   refine ak (ay rfl (drop_nil c) (aX ?_))
   exact aU (h) rfl rfl (aG rfl)
  | cons b l =>
   obtain ⟨u,e,d⟩:=bind_some d
   refine ai (aa (vB (decide ((f:Int)<(a.length:Int)))) (ah ?_))
   refine ak (aA rfl (aZ c) (av ?_))
   unfold yJ at e
   refine ak (aK (ai (dK es162 rfl rfl (bz c) rfl wz (bK sz32 ag32 rfl (vI b) rfl wz (aa (vI b) (ah (ai (aa (vI b) (aa (vB (b != 0)) (ah ?_))))))))))
   rcases aj e with⟨i,e⟩|⟨i,e⟩
   ·refine aA rfl i (ai (aa (vI b) (aa (vI b) (ah ?_))))
    obtain rfl:=ae e
    obtain rfl:=ae d
    obtain rfl:=ae g
    exact aB (aM [(vI b)] ⟨rfl,trivial⟩)
   ·refine ay rfl i (av (au (dx (bf c m) wz rfl (aa (vI ((f+1:Nat):Int)) (ah ?_)))))
    obtain rfl:=ae e
    exact aV (f+1,l,()) ⟨d,aP c⟩ (ls_ _) rfl (aG rfl)
 ·rintro h n v t o p
  subst n
  refine aN _ o p (ai (aa (vI 0) (ah ?_)))
  obtain rfl:=ae g
  exact aB (aM [(vI 0)] ⟨rfl,trivial⟩)
theorem IX {r:Bool} (b:sK  = some r) :
  FnM Tryz.prog 21 [] [] (vB r) []:=by
 refine FnM.of_wH ⟨Tryz.prog,75,[],[]⟩ rfl Tryz.func21 rfl rfl (lb_ rfl) (by kernel_rfl) ?_
 unfold sK at b
 refine ai (aa (vB false) (ah (ai (aJ (.d (.agg (Rect.enc (⟨0,0,2,2⟩:Rect)))) wz (by kernel_rfl) (aJ (.d (.agg (Rect.enc (⟨1,1,2,2⟩:Rect)))) wz (by kernel_rfl) (dW (([(⟨0,0,2,2⟩:Rect),(⟨1,1,2,2⟩:Rect)]:List Rect).map Rect.enc) BC Tm rfl rfl rfl rfl rfl wz ?_))))))
 obtain ⟨c,t,b⟩:=bind_some b
 refine aD (G9 t) rfl hb58 rfl rfl rfl rfl wz (aa (.tup [(vI c.1),(vI c.2)]) (aa (vI c.1) (aa (vI c.2) (aa (vI c.1) (aa (vI c.2) (ah (ai (aJ (.agg [(vS (⟨#[97]⟩:ByteArray)),(vS (⟨#[98]⟩:ByteArray)),(vI 0),(vI 0),(vI 0),(vI 1),(vI 127),.nil,(vI 1),(vI 2),(vI 0),.nil,(vB false)]) wz (by kernel_rfl) (aJ (.d (.agg (Window.enc (⟨0,86400000⟩:Window)))) wz (by kernel_rfl) ?_)))))))))
 obtain ⟨e,u,b⟩:=bind_some b
 refine aD (Dp u) rfl hb59 rfl rfl rfl rfl wz (aa (.tup [(vL Window.enc e.1),(vI e.2)]) (aa (vL Window.enc e.1) (aa (vI e.2) (aa (vL Window.enc e.1) (aa (vI e.2) (ah (ai (aJ (.d (.agg (Window.enc (⟨0,100⟩:Window)))) wz (by kernel_rfl) (aJ (.agg [(vS (⟨#[97]⟩:ByteArray)),(vS (⟨#[]⟩:ByteArray)),(vI 0),(vI 100),.nil,(vI 10),(vI 0),(vI 0)]) wz (by kernel_rfl) ?_)))))))))
 obtain ⟨f,v,b⟩:=bind_some b
 refine aD (H8 v) rfl hb60 rfl rfl rfl rfl wz (aa (.tup [(vI f.1),(vI f.2)]) (aa (vI f.1) (aa (vI f.2) (aa (vI f.1) (aa (vI f.2) (ah (ai (aJ (.d (.agg (Beat.enc (⟨(⟨#[112]⟩:ByteArray),0,100⟩:Beat)))) wz (by kernel_rfl) (aJ (.d (.agg (Beat.enc (⟨(⟨#[112]⟩:ByteArray),1000,1300⟩:Beat)))) wz (by kernel_rfl) (dW (([(⟨(⟨#[112]⟩:ByteArray),0,100⟩:Beat),(⟨(⟨#[112]⟩:ByteArray),1000,1300⟩:Beat)]:List Beat).map Beat.enc) JQ ez123 rfl rfl rfl rfl rfl wz ?_))))))))))
 obtain ⟨g,w,b⟩:=bind_some b
 refine aD (Gv w) rfl hb61 rfl rfl rfl rfl wz (aa (.tup [(vI g.1),(vI g.2)]) (aa (vI g.1) (aa (vI g.2) (aa (vI g.1) (aa (vI g.2) (ah (aN (H0:=([]:Hp)) ([(1,(vI c.1)),(2,(vI c.2)),(3,(vL Window.enc e.1)),(4,(vI e.2)),(5,(vI f.1)),(6,(vI f.2)),(7,(vI g.1)),(8,(vI g.2))]:SL_) (by kernel_rfl) (yN (by kernel_rfl)) (ai (aJ (.d (.agg (Rect.enc (⟨0,0,2,2⟩:Rect)))) wz (by kernel_rfl) (dW (([(⟨0,0,2,2⟩:Rect)]:List Rect).map Rect.enc) BC Tm rfl rfl rfl rfl rfl wz (aJ (.agg [(vS (⟨#[97]⟩:ByteArray)),(vS (⟨#[115]⟩:ByteArray)),(vI 1),.nil,(vI 0),(vI 5),(vI 1),(vL Rect.enc ([(⟨0,0,2,2⟩:Rect)]:List Rect)),(vS (⟨#[120]⟩:ByteArray))]) wz (by kernel_rfl) (bZ 0 (.inl rfl) z39 rfl wz (λx=>gp 0 il ft 0 fJ rfl rfl [(vS (⟨#[97]⟩:ByteArray)),(vS (⟨#[115]⟩:ByteArray)),(vI 1),.nil,(vI 0),(vI 5),(vI 1),(vL Rect.enc ([(⟨0,0,2,2⟩:Rect)]:List Rect)),(vS (⟨#[120]⟩:ByteArray))] rfl wz (ah (ai (aC 0 0 il ft fJ jZ rfl rfl (.agg [(vS (⟨#[97]⟩:ByteArray)),(vS (⟨#[115]⟩:ByteArray)),(vI 1),.nil,(vI 0),(vI 5),(vI 1),(vL Rect.enc ([(⟨0,0,2,2⟩:Rect)]:List Rect)),(vS (⟨#[120]⟩:ByteArray))]) rfl wz (aJ (.d (.agg (Post.enc (⟨(⟨#[112]⟩:ByteArray),1,1⟩:Post)))) wz (by kernel_rfl) ?_)))))))))))))))))
 obtain ⟨h,q,b⟩:=bind_some b
 refine aD (EF q) rfl hb62 rfl rfl rfl rfl wz (aa (.tup [(vB h.1),(vI h.2)]) (aa (vB h.1) (aa (vI h.2) (aa (vB h.1) (aa (vI h.2) (ah (ak ?_)))))))
 obtain ⟨n,a,b⟩:=bind_some b
 refine aR [(0,(vB n))] [(x,some (.cells 9 [(vS (⟨#[97]⟩:ByteArray)),(vS (⟨#[115]⟩:ByteArray)),(vI 1),.nil,(vI 0),(vI 5),(vI 1),(vL Rect.enc ([(⟨0,0,2,2⟩:Rect)]:List Rect)),(vS (⟨#[120]⟩:ByteArray))]))] ?_ ?_
 ·refine au (aa (vI c.2) (aa (vI e.2) (aa (vI f.2) (aa (vI g.2) (aa (vI h.2) (dW (([c.2,e.2,f.2,g.2,h.2]:List Int).map eI) es162 ez162 rfl rfl rfl rfl rfl wz ?_))))))
  obtain ⟨y,s,a⟩:=bind_some a
  refine aD (J7 s) rfl hb63 rfl rfl rfl rfl wz (aa (vB (y==0)) ?_)
  rcases aj a with⟨i,a⟩|⟨i,a⟩
  ·refine aF rfl i wz (aJ (vI c.1) wa rfl (aJ (vB (c.1==7)) wa rfl (aa (vB (c.1==7)) ?_)))
   rcases aj a with⟨j,a⟩|⟨j,a⟩
   ·refine aF rfl j wz (aJ (vL Window.enc e.1) wa rfl (bJ un110 rfl wa (aJ (vB ((e.1.length:Int)==1)) wa rfl (aa (vB ((e.1.length:Int)==1)) ?_))))
    rcases aj a with⟨k,a⟩|⟨k,a⟩
    ·refine aF rfl k wz (aJ (vI f.1) wa rfl (aJ (vB (f.1==5)) wa rfl (aa (vB (f.1==5)) ?_)))
     rcases aj a with⟨l,a⟩|⟨l,a⟩
     ·refine aF rfl l wz (aJ (vI g.1) wa rfl (aJ (vB (g.1==500)) wa rfl (aa (vB (g.1==500)) ?_)))
      rcases aj a with⟨m,a⟩|⟨m,a⟩
      ·refine aF rfl m wz (aJ (vB h.1) wa rfl (aa (vB h.1) (aa (vB h.1) (ah ?_))))
       obtain rfl:=ae a
       exact cu
      ·refine aF rfl m wz (af (aa (vB false) (aa (vB false) (ah ?_))))
       obtain rfl:=ae a
       exact cu
     ·refine aF rfl l wz (af (af (aa (vB false) (aa (vB false) (af (aa (vB false) (aa (vB false) (ah ?_))))))))
      obtain rfl:=ae a
      exact cu
    ·refine aF rfl k wz (af (af (aa (vB false) (aa (vB false) (af (af (aa (vB false) (aa (vB false) (af (aa (vB false) (aa (vB false) (ah ?_))))))))))))
     obtain rfl:=ae a
     exact cu
   ·refine aF rfl j wz (af (af (af (aa (vB false) (aa (vB false) (af (af (aa (vB false) (aa (vB false) (af (af (aa (vB false) (aa (vB false) (af (aa (vB false) (aa (vB false) (ah ?_)))))))))))))))))
    obtain rfl:=ae a
    exact cu
  ·refine aF rfl i wz (af (af (aa (vB false) (aa (vB false) (af (af (af (aa (vB false) (aa (vB false) (af (af (aa (vB false) (aa (vB false) (af (af (aa (vB false) (aa (vB false) (af (aa (vB false) (aa (vB false) (ah ?_)))))))))))))))))))))
   obtain rfl:=ae a
   exact cu
 ·rintro ⟨⟩ _ A z o p
  refine aN _ o p ?_
  obtain rfl:=ae b
  exact aB (aM [(vB n)] ⟨rfl,trivial⟩)
theorem Cf {n:(List Int)} {r:Bool} (a:qi n=some r) :
  FnM Tryz.prog 3 [(vL eI n)] [] (vB r) []:=by
 refine FnM.of_wH ⟨Tryz.prog,103,[],[]⟩ rfl Tryz.func3 rfl rfl (lb_ rfl) (by kernel_rfl) ?_
 unfold qi at a
 refine ai (aa (vB false) (ah (ai (aa (vL eI n) (aJ (.d (.agg (Stream.enc (⟨n,0⟩:Stream)))) wz (by kernel_rfl) (eT 0 (.inl rfl) [(vL eI n),(vI 0)] rfl rfl wz (λg=>aa (vL eI n) (aJ (.d (.agg (Stream.enc (⟨n,0⟩:Stream)))) wz (by kernel_rfl) (eT 0 (.inl rfl) [(vL eI n),(vI 0)] rfl rfl wz (λh=>aa (.ref g 0 0) (aa (.ref h 0 0) (ah (ai (aa (.ref g 0 0) ?_))))))))))))))
 obtain ⟨m,É,a⟩:=bind_some a
 refine dG 0 [0] il ft (pV É) rfl hb4 rfl (by kernel_rfl) (by kernel_rfl) (by kernel_rfl) (by kernel_rfl) (by kernel_rfl) (by kernel_rfl) (by kernel_rfl) (by decide) (by kernel_rfl) wz (vL Alert.enc m.1) (by kernel_rfl) ([(g,some (.cells 2 [(vL eI m.2.L),(vI m.2.f_at)])),(h,some (.cells 2 [(vL eI n),(vI 0)]))]:Hp) (by kernel_rfl) (aa (.ref g 0 0) ?_)
 obtain ⟨o,Ó,a⟩:=bind_some a
 refine dG 0 [0] il ft (qI Ó) rfl hb5 rfl (by kernel_rfl) (by kernel_rfl) (by kernel_rfl) (by kernel_rfl) (by kernel_rfl) (by kernel_rfl) (by kernel_rfl) (by decide) (by kernel_rfl) wz (vL Post.enc o.1) (by kernel_rfl) ([(g,some (.cells 2 [(vL eI o.2.L),(vI o.2.f_at)])),(h,some (.cells 2 [(vL eI n),(vI 0)]))]:Hp) (by kernel_rfl) (aa (.ref g 0 0) ?_)
 obtain ⟨b,À,a⟩:=bind_some a
 refine dG 0 [0] il ft (rR À) rfl hb6 rfl (by kernel_rfl) (by kernel_rfl) (by kernel_rfl) (by kernel_rfl) (by kernel_rfl) (by kernel_rfl) (by kernel_rfl) (by decide) (by kernel_rfl) wz (vL Receipt.enc b.1) (by kernel_rfl) ([(g,some (.cells 2 [(vL eI b.2.L),(vI b.2.f_at)])),(h,some (.cells 2 [(vL eI n),(vI 0)]))]:Hp) (by kernel_rfl) (aa (vL Alert.enc m.1) (aa (vL Post.enc o.1) (aa (vL Receipt.enc b.1) (ah (ai (aa (.ref h 0 0) ?_))))))
 obtain ⟨u,Á,a⟩:=bind_some a
 refine dG 0 [1] il ft (pV Á) rfl hb4 rfl (by kernel_rfl) (by kernel_rfl) (by kernel_rfl) (by kernel_rfl) (by kernel_rfl) (by kernel_rfl) (by kernel_rfl) (by decide) (by kernel_rfl) wz (vL Alert.enc u.1) (by kernel_rfl) ([(g,some (.cells 2 [(vL eI b.2.L),(vI b.2.f_at)])),(h,some (.cells 2 [(vL eI u.2.L),(vI u.2.f_at)]))]:Hp) (by kernel_rfl) (aa (.ref h 0 0) ?_)
 obtain ⟨v,Â,a⟩:=bind_some a
 refine dG 0 [1] il ft (qI Â) rfl hb5 rfl (by kernel_rfl) (by kernel_rfl) (by kernel_rfl) (by kernel_rfl) (by kernel_rfl) (by kernel_rfl) (by kernel_rfl) (by decide) (by kernel_rfl) wz (vL Post.enc v.1) (by kernel_rfl) ([(g,some (.cells 2 [(vL eI b.2.L),(vI b.2.f_at)])),(h,some (.cells 2 [(vL eI v.2.L),(vI v.2.f_at)]))]:Hp) (by kernel_rfl) (aa (.ref h 0 0) ?_)
 obtain ⟨c,Ã,a⟩:=bind_some a
 refine dG 0 [1] il ft (rR Ã) rfl hb6 rfl (by kernel_rfl) (by kernel_rfl) (by kernel_rfl) (by kernel_rfl) (by kernel_rfl) (by kernel_rfl) (by kernel_rfl) (by decide) (by kernel_rfl) wz (vL Receipt.enc c.1) (by kernel_rfl) ([(g,some (.cells 2 [(vL eI b.2.L),(vI b.2.f_at)])),(h,some (.cells 2 [(vL eI c.2.L),(vI c.2.f_at)]))]:Hp) (by kernel_rfl) (aa (vL Alert.enc u.1) (aa (vL Post.enc v.1) (aa (vL Receipt.enc c.1) (ah (ai (aa (vL Alert.enc m.1) ?_))))))
 obtain ⟨f,Ä,a⟩:=bind_some a
 refine Gt [.int .i64 f.2] [] (FL Ä) rfl hb7 rfl (by kernel_rfl) (by kernel_rfl) (by kernel_rfl) (by kernel_rfl) (by kernel_rfl) rfl (by decide) (by kernel_rfl) wz ([(g,some (.cells 2 [(vL eI b.2.L),(vI b.2.f_at)])),(h,some (.cells 2 [(vL eI c.2.L),(vI c.2.f_at)]))]:Hp) (λ_=>by kernel_rfl) (λi=>aa (.tup [(gV i 9 f.1),(vI f.2)]) (aa (gV i 9 f.1) (aa (vI f.2) (aa (gV i 9 f.1) (aa (vI f.2) (ah (aN (H0:=([(g,some (.cells 2 [(vL eI b.2.L),(vI b.2.f_at)])),(h,some (.cells 2 [(vL eI c.2.L),(vI c.2.f_at)])),(i,gB 9 Alert.encW f.1)]:Hp)) ([(5,(vL Alert.enc m.1)),(6,(vL Post.enc o.1)),(7,(vL Receipt.enc b.1)),(8,(vL Alert.enc u.1)),(9,(vL Post.enc v.1)),(10,(vL Receipt.enc c.1)),(11,(gV i 9 f.1))]:SL_) (by kernel_rfl) (yN (by kernel_rfl)) (ak (ai (aa (gV i 9 f.1) (zG uS rfl wz (aa (vI 0) (ah ?_)))))))))))))
 obtain ⟨Ö,K,a⟩:=bind_some a
 obtain ⟨Y,K⟩:=aS K
 refine bH (λ(F:Unit)=>[(5,(vL Alert.enc m.1)),(6,(vL Post.enc o.1)),(7,(vL Receipt.enc b.1)),(8,(vL Alert.enc u.1)),(9,(vL Post.enc v.1)),(10,(vL Receipt.enc c.1)),(11,(gV i 9 f.1))]) (λ(F:Unit)=>[(g,some (.cells 2 [(vL eI b.2.L),(vI b.2.f_at)])),(h,some (.cells 2 [(vL eI c.2.L),(vI c.2.f_at)])),(i,gB 9 Alert.encW f.1)]) (λ(p:Nat)=>(λ(F:Unit)=>[(5,(vL Alert.enc m.1)),(6,(vL Post.enc o.1)),(7,(vL Receipt.enc b.1)),(8,(vL Alert.enc u.1)),(9,(vL Post.enc v.1)),(10,(vL Receipt.enc c.1)),(11,(gV i 9 f.1)),(44,(vI (f.1.length:Int))),(45,(vI (p:Int)))])) (λk x s=>jC f k x s) Ö (List.range ((f.1.length:Int)).toNat) () K rfl (aG rfl) ?_ ?_
 ·rintro ⟨p,O,F⟩ ⟨C,B⟩
  dsimp only at C B
  cases O with
  | nil =>
   obtain rfl:=ae C
   refine ai (aa (vB (decide ((p:Int)<(f.1.length:Int)))) (ah ?_))
   refine ak (ay rfl (mg B) (aX ?_))
   exact aU (F) rfl rfl (aG rfl)
  | cons á O =>
   obtain ⟨Û,j,C⟩:=bind_some C
   refine ai (aa (vB (decide ((p:Int)<(f.1.length:Int)))) (ah ?_))
   refine ak (aA rfl (kR B) (av ?_))
   unfold jC at j
   refine ak (aK (ai (aa (vI (p:Int)) (aa (vI (p:Int)) (ah (ai (aa (gV i 9 f.1) (aa (vI (p:Int)) ?_))))))))
   obtain ⟨_,P,j⟩:=bind_some j
   refine xg mH rfl rfl (gN P) (dP P) wz (aH qx rfl 3 rfl wz ?_)
   obtain ⟨W,Ô,j⟩:=bind_some j
   refine jm 0 2 il ft zV Cy rfl rfl Ô (.d (.wild 1 W.Refs.length)) rfl wz ?_
   obtain ⟨Ü,Å,j⟩:=bind_some j
   refine aD (xO Å) rfl hb8 rfl rfl rfl rfl wz (ah (au (aa (gV i 9 f.1) (aa (vI (p:Int)) ?_))))
   obtain ⟨_,Q,j⟩:=bind_some j
   refine xg mH rfl rfl (gN Q) (dP Q) wz (aH ul rfl 7 rfl wz ?_)
   obtain ⟨X,Õ,j⟩:=bind_some j
   refine jm 0 2 il ft CQ FE rfl rfl Õ (.d (.wild 4 X.Areas.length)) rfl wz ?_
   obtain ⟨Ý,Æ,j⟩:=bind_some j
   refine aD (wJ Æ) rfl hb9 rfl rfl rfl rfl wz (ah (au (dx (ma B Y) wz rfl (aa (vI ((p+1:Nat):Int)) (ah ?_)))))
   obtain rfl:=ae j
   exact aV (p+1,O,()) ⟨C,aP B⟩ (ls_ _) rfl (aG rfl)
 ·rintro F Z Ú U M N
  subst Z
  refine aN _ M N (ai (aa (gV i 9 f.1) (h_ghost (λhw=>RV 61 2 rfl rfl hw) (by kernel_rfl) ?_)))
  obtain ⟨Þ,Ç,a⟩:=bind_some a
  refine aD (vP Ç) rfl hb10 rfl rfl rfl rfl wz (ah (ai (aa (vL Receipt.enc b.1) ?_)))
  obtain ⟨z,È,a⟩:=bind_some a
  refine aD (Gp È) rfl hb11 rfl rfl rfl rfl wz (aa (.tup [(.d (.wild 4 z.1.length)),(vI z.2)]) (aa (.d (.wild 4 z.1.length)) (aa (vI z.2) (aa (.d (.wild 4 z.1.length)) (aa (vI z.2) (ah (ai (aa (.d (.wild 4 z.1.length)) ?_))))))))
  obtain ⟨ß,Ê,a⟩:=bind_some a
  refine aD (uB Ê) rfl hb12 rfl rfl rfl rfl wz (ah (ai (aa (vL Alert.enc m.1) (aa (vL Post.enc o.1) (aa (vL Receipt.enc b.1) ?_)))))
  obtain ⟨w,Ë,a⟩:=bind_some a
  refine Gt [.int .i64 w.2] [] (FJ Ë) rfl hb13 rfl (by kernel_rfl) (by kernel_rfl) (by kernel_rfl) (by kernel_rfl) (by kernel_rfl) rfl (by decide) (by kernel_rfl) wz ([(g,some (.cells 2 [(vL eI b.2.L),(vI b.2.f_at)])),(h,some (.cells 2 [(vL eI c.2.L),(vI c.2.f_at)])),(i,none)]:Hp) (λ_=>by kernel_rfl) (λl=>aa (.tup [(gV l 4 w.1),(vI w.2)]) (aa (gV l 4 w.1) (aa (vI w.2) (aa (gV l 4 w.1) (aa (vI w.2) (ah (ai (aa (gV l 4 w.1) ?_))))))))
  obtain ⟨y,Ì,a⟩:=bind_some a
  obtain ⟨_,A,a⟩:=bind_some a
  replace A:=jQ A
  refine kC 0 [] 3 0 il ft (wI Ì) rfl hb14 rfl rfl rfl (by kernel_rfl) rfl (.inl rfl) rfl (by kernel_rfl) (by kernel_rfl) (by kernel_rfl) (by kernel_rfl) rfl (by decide) (by kernel_rfl) jN (tV A) wz ([(g,some (.cells 2 [(vL eI b.2.L),(vI b.2.f_at)])),(h,some (.cells 2 [(vL eI c.2.L),(vI c.2.f_at)])),(i,none),(l,gB 4 Debt.enc y)]:Hp) (by kernel_rfl) (bT (v':=(gV l 4 y)) 16 rfl (fC A.symm) (bT (v':=(gV l 4 y)) 75 rfl (fC A.symm) (bT (v':=(gV l 4 y)) 77 rfl (fC A.symm) (ah (ai (aa (vL Alert.enc m.1) (aa (vL Post.enc o.1) ?_)))))))
  obtain ⟨t,Í,a⟩:=bind_some a
  refine Gt [.int .i64 t.2] [] (CV Í) rfl hb15 rfl (by kernel_rfl) (by kernel_rfl) (by kernel_rfl) (by kernel_rfl) (by kernel_rfl) rfl (by decide) (by kernel_rfl) wz ([(g,some (.cells 2 [(vL eI b.2.L),(vI b.2.f_at)])),(h,some (.cells 2 [(vL eI c.2.L),(vI c.2.f_at)])),(i,none),(l,gB 4 Debt.enc y)]:Hp) (λ_=>by kernel_rfl) (λq=>aa (.tup [(gV q 2 t.1),(vI t.2)]) (aa (gV q 2 t.1) (aa (vI t.2) (aa (gV q 2 t.1) (aa (vI t.2) (ah (aN (H0:=([(g,some (.cells 2 [(vL eI b.2.L),(vI b.2.f_at)])),(h,some (.cells 2 [(vL eI c.2.L),(vI c.2.f_at)])),(i,none),(l,gB 4 Debt.enc y),(q,gB 2 Pair_.enc t.1)]:Hp)) ([(5,(vL Alert.enc m.1)),(6,(vL Post.enc o.1)),(7,(vL Receipt.enc b.1)),(8,(vL Alert.enc u.1)),(9,(vL Post.enc v.1)),(10,(vL Receipt.enc c.1)),(18,(gV q 2 t.1))]:SL_) (by kernel_rfl) (yN (by kernel_rfl)) (ai (aa (gV q 2 t.1) ?_)))))))))
  obtain ⟨G,Î,a⟩:=bind_some a
  obtain ⟨_,E,a⟩:=bind_some a
  replace E:=jQ E
  refine kC 0 [] 4 0 il ft (wF Î) rfl hb16 rfl rfl rfl (by kernel_rfl) rfl (.inl rfl) rfl (by kernel_rfl) (by kernel_rfl) (by kernel_rfl) (by kernel_rfl) rfl (by decide) (by kernel_rfl) jN (tV E) wz ([(g,some (.cells 2 [(vL eI b.2.L),(vI b.2.f_at)])),(h,some (.cells 2 [(vL eI c.2.L),(vI c.2.f_at)])),(i,none),(l,gB 4 Debt.enc y),(q,gB 2 Pair_.enc G)]:Hp) (by kernel_rfl) (bT (v':=(gV q 2 G)) 18 rfl (fC E.symm) (bT (v':=(gV q 2 G)) 85 rfl (fC E.symm) (ah (ak ?_))))
  obtain ⟨T,e,a⟩:=bind_some a
  refine aR [(2,(vB T))] [(g,some (.cells 2 [(vL eI b.2.L),(vI b.2.f_at)])),(h,some (.cells 2 [(vL eI c.2.L),(vI c.2.f_at)])),(i,none),(l,gB 4 Debt.enc y),(q,gB 2 Pair_.enc G)] ?_ ?_
  ·refine au (aa (vL Alert.enc m.1) (aa (vL Alert.enc u.1) ?_))
   obtain ⟨à,Ï,e⟩:=bind_some e
   refine aD (jb Ï) rfl hb17 rfl rfl rfl rfl wz ?_
   rcases aj e with⟨H,e⟩|⟨H,e⟩
   ·refine aF rfl H wz (aJ (vL Post.enc o.1) wa rfl (aJ (vL Post.enc v.1) wa rfl ?_))
    obtain ⟨Ø,Ð,e⟩:=bind_some e
    refine aD (qP Ð) rfl hb19 rfl rfl rfl rfl wa (aa (vB Ø) ?_)
    rcases aj e with⟨I,e⟩|⟨I,e⟩
    ·refine aF rfl I wz (aJ (vL Receipt.enc b.1) wa rfl (aJ (vL Receipt.enc c.1) wa rfl ?_))
     obtain ⟨Ù,Ñ,e⟩:=bind_some e
     refine aD (nX Ñ) rfl hb20 rfl rfl rfl rfl wa (aa (vB Ù) ?_)
     rcases aj e with⟨J,e⟩|⟨J,e⟩
     ·refine aF rfl J wz ?_
      obtain ⟨R,Ò,e⟩:=bind_some e
      refine aD (IX Ò) rfl hb21 rfl rfl rfl rfl wa (aa (vB R) (aa (vB R) (ah ?_)))
      obtain rfl:=ae e
      exact cu
     ·refine aF rfl J wz (af (aa (vB false) (aa (vB false) (ah ?_))))
      obtain rfl:=ae e
      exact cu
    ·refine aF rfl I wz (af (af (af (aa (vB false) (aa (vB false) (af (aa (vB false) (aa (vB false) (ah ?_)))))))))
     obtain rfl:=ae e
     exact cu
   ·refine aF rfl H wz (af (af (af (aa (vB false) (aa (vB false) (af (af (af (aa (vB false) (aa (vB false) (af (aa (vB false) (aa (vB false) (ah ?_))))))))))))))
    obtain rfl:=ae e
    exact cu
  ·rintro ⟨⟩ _ Ú U M N
   refine aN _ M N ?_
   obtain rfl:=ae a
   exact aB (aM [(vB T)] ⟨rfl,trivial⟩)
end Go.Proofs.YtadpbmfnnlkdlacGreatDoor.Law

