/-
 The machine computes these plain functions (written by a program of ours).
-/
import Derived.Test.YtljhfffghjclfabGreatDoorFacts
import Derived.Test.YtljhfffghjclfabGreatDoorDefs
import Derived.Test.YtljhfffghjclfabGreatDoorPf4
open Go Go.Eng Go.Proofs
namespace Go.Proofs.YtljhfffghjclfabGreatDoor.Law
set_option maxRecDepth 100000
set_option linter.unusedVariables false
set_option maxHeartbeats 1000000
theorem zU {e:Entry} {c:Int} {a:Window} {r:(List Window)} (j:l8 e c a=some r) :
  FnM Tryz.prog 54 [(.d (.agg (Entry.enc e))),(vI c),(.d (.agg (Window.enc a)))] [] (gV (au 0) 2 r) (([]:List Box).map some++gO 2 Window.enc r):=by
 refine FnM.of_wH ⟨Tryz.prog,72,[],[]⟩ rfl Tryz.func54 rfl rfl (lb_ rfl) (by kernel_rfl) ?_
 unfold l8 at j
 refine ai (iW 0 (.inl rfl) (Entry.v e) rfl rfl wz (λk=>iW 0 (.inl rfl) [(vI a.From),(vI a.To)] rfl rfl wz (λl=>aa .nil (af (ai (aa .nil (af (ak (ak ?_)))))))))
 obtain ⟨Y,u,j⟩:=bind_some j
 refine aP [(1,(vI c)),(3,(.ref k 0 0)),(5,(.ref l 0 0)),(7,.nil),(20,(vB Y))] [(k,some (.cells 13 (Entry.v e))),(l,some (.cells 2 [(vI a.From),(vI a.To)]))] ?_ ?_
 ·refine av (aG pl75_12 rfl 12 rfl wz (aF 0 0 il ft sz4 ag4 rfl rfl (vB e.Gone) rfl wz ?_))
  rcases aj u with⟨E,u⟩|⟨E,u⟩
  ·refine aC rfl E wz (ah (ah (ah (ah (ah (aa (vB true) (af ?_)))))))
   obtain rfl:=ae u
   exact cu
  ·refine aC rfl E wz (aG pM rfl 0 rfl wa (aF 0 1 il ft sz3 ag3 rfl rfl (vI a.From) rfl wa (aG pE rfl 1 rfl wa (aF 0 1 il ft sz3 ag3 rfl rfl (vI a.To) rfl wa (aI (vB (decide (a.From>=a.To))) wa rfl (aa (vB (decide (a.From>=a.To))) (af ?_)))))))
   obtain rfl:=ae u
   exact cu
 ·rintro ⟨⟩ _ I y o q
  refine aN _ o q ?_
  rcases aj j with⟨F,j⟩|⟨F,j⟩
  ·refine aB rfl F (ai (aa .nil (af (mR (λÀ => ?_)))))
   obtain rfl:=ae j
   exact ay (finG (outs:=([]:List Box)) (.inr rfl) 2 rfl rfl rfl (by kernel_rfl) (by kernel_rfl))
  ·refine aA rfl F (ax (ai (aG pM rfl 0 rfl wz (aF 0 1 il ft sz3 ag3 rfl rfl (vI a.From) rfl wz (aa (vI c) (aa (vI (w64 (c*60000))) (aa (vI (w64 (a.From+(w64 (c*60000))))) (aa (vI (w64 ((w64 (a.From+(w64 (c*60000)))).tdiv 86400000))) (aa (vI (w64 ((w64 ((w64 (a.From+(w64 (c*60000)))).tdiv 86400000))-2))) (aa (vI (w64 ((w64 ((w64 (a.From+(w64 (c*60000)))).tdiv 86400000))-2))) (af (ai (aG pE rfl 1 rfl wz (aF 0 1 il ft sz3 ag3 rfl rfl (vI a.To) rfl wz (aa (vI c) (aa (vI (w64 (c*60000))) (aa (vI (w64 (a.To+(w64 (c*60000))))) (aa (vI (w64 ((w64 (a.To+(w64 (c*60000)))).tdiv 86400000))) (aa (vI (w64 ((w64 ((w64 (a.To+(w64 (c*60000)))).tdiv 86400000))+1))) (aa (vI (w64 ((w64 ((w64 (a.To+(w64 (c*60000)))).tdiv 86400000))+1))) (af (ak (ai ?_)))))))))))))))))))))))
   refine aa (vI (w64 ((w64 ((w64 (a.From+(w64 (c*60000)))).tdiv 86400000))-2))) (aG Ja rfl 3 rfl wz (aF 0 0 il ft sz3 ag3 rfl rfl (vI e.First) rfl wz (uD (vI (uQ (w64 ((w64 ((w64 (a.From+(w64 (c*60000)))).tdiv 86400000))-2)) e.First)) rfl (.inr rfl) wz (aa (vI (uQ (w64 ((w64 ((w64 (a.From+(w64 (c*60000)))).tdiv 86400000))-2)) e.First)) (af (mR (λR => ?_)))))))
   obtain ⟨U,G,j⟩:=bind_some j
   obtain ⟨T,G⟩:=fe G
   refine Kk (σ:=(List Window)×Int) (N:=Nm) (λp=>(λ(b:(List Window)×Int) (g:Nm)=>([(7,(gV g 2 b.1))]:SL_)) p.1 p.2) (λp=>(λ(b:(List Window)×Int) (g:Nm)=>([(k,some (.cells 13 (Entry.v e))),(l,some (.cells 2 [(vI a.From),(vI a.To)])),(g,gB 2 Window.enc b.1)]:Hp)) p.1 p.2) (λ(w:Nat)=>(λp=>(λ(b:(List Window)×Int) (g:Nm)=>([(1,(vI c)),(3,(.ref k 0 0)),(5,(.ref l 0 0)),(7,(gV g 2 b.1)),(9,(vI (w64 ((w64 ((w64 (a.To+(w64 (c*60000)))).tdiv 86400000))+1)))),(10,(vI b.2))]:SL_)) p.1 p.2)) (λs=>jD a c e s) U T ((([]:List Window),(uQ (w64 ((w64 ((w64 (a.From+(w64 (c*60000)))).tdiv 86400000))-2)) e.First)),R) G rfl (aJ rfl) ?_ ?_
   ·rintro ⟨w,b,g⟩ m
    dsimp only at m
    cases w with
    | zero=>cases m
    | succ w =>
     obtain ⟨Z,f,m⟩:=bind_some m
     unfold jD at f
     refine ak (ai (aa (vI b.2) (aa (vI (w64 ((w64 ((w64 (a.To+(w64 (c*60000)))).tdiv 86400000))+1))) (aG IJ rfl 4 rfl wz (aF 0 0 il ft sz3 ag3 rfl rfl (vI e.Last) rfl wz (uD (vI (JL (w64 ((w64 ((w64 (a.To+(w64 (c*60000)))).tdiv 86400000))+1)) e.Last)) rfl (.inl rfl) wz (aa (vB (decide (b.2<=(JL (w64 ((w64 ((w64 (a.To+(w64 (c*60000)))).tdiv 86400000))+1)) e.Last)))) (af ?_))))))))
     rcases aj f with⟨z,f⟩|⟨z,f⟩
     ·refine aB rfl z (ax (ak (aM (ak (ai (aF 0 0 il ft Mt Oq rfl rfl (.d (.agg (Entry.enc e))) rfl wz (aa (vI b.2) ?_)))))))
      obtain ⟨W,O,f⟩:=bind_some f
      refine aD (Bl O) rfl hb94 rfl rfl rfl rfl wz (aa (vB (!W)) (af ?_))
      rcases aj f with⟨A,f⟩|⟨A,f⟩
      ·refine aB rfl A (bg (av (aa (vI b.2) (aa (vI (w64 (b.2+1))) (aa (vI (w64 (b.2+1))) (af ?_))))))
       obtain rfl:=ae f
       exact bf (w,(b.1,(w64 (b.2+1))),g) m (ls_ _) rfl (aJ rfl)
      ·refine aA rfl A (ax (ai (aF 0 0 il ft Mt Oq rfl rfl (.d (.agg (Entry.enc e))) rfl wz (aa (vI c) (aa (vI b.2) ?_)))))
       obtain ⟨h,P,f⟩:=bind_some f
       refine aD (zY P) rfl hb95 rfl rfl rfl rfl wz (dP 0 (.inl rfl) z77 rfl wz (λH=>gy 0 il ft 3 zV rfl rfl [(vI h.From),(vI h.To)] rfl wz (af (ak ?_))))
       obtain ⟨X,t,f⟩:=bind_some f
       refine aP [(1,(vI c)),(3,(.ref k 0 0)),(5,(.ref l 0 0)),(7,(gV g 2 b.1)),(9,(vI (w64 ((w64 ((w64 (a.To+(w64 (c*60000)))).tdiv 86400000))+1)))),(10,(vI b.2)),(11,(.ref H 0 0)),(66,(vB X))] [(k,some (.cells 13 (Entry.v e))),(l,some (.cells 2 [(vI a.From),(vI a.To)])),(g,gB 2 Window.enc b.1),(H,some (.cells 2 [(vI h.From),(vI h.To)]))] ?_ ?_
       ·refine av (aG pM rfl 0 rfl wz (aF 0 3 il ft sz3 ag3 rfl rfl (vI h.From) rfl wz (aG pE rfl 1 rfl wz (aF 0 1 il ft sz3 ag3 rfl rfl (vI a.To) rfl wz (aa (vB (decide (h.From<a.To))) ?_)))))
        rcases aj t with⟨B,t⟩|⟨B,t⟩
        ·refine aC rfl B wz (aG pE rfl 1 rfl wa (aF 0 3 il ft sz3 ag3 rfl rfl (vI h.To) rfl wa (aG pM rfl 0 rfl wa (aF 0 1 il ft sz3 ag3 rfl rfl (vI a.From) rfl wa (aI (vB (decide (h.To>a.From))) wa rfl (aa (vB (decide (h.To>a.From))) (af ?_)))))))
         obtain rfl:=ae t
         exact cu
        ·refine aC rfl B wz (ah (ah (ah (ah (ah (aa (vB false) (af ?_)))))))
         obtain rfl:=ae t
         exact cu
       ·rintro ⟨⟩ _ I y o q
        refine aN _ o q ?_
        obtain ⟨J,n,f⟩:=bind_some f
        refine lD (β:=Nm) (λ(x:Nm)=>([(1,(vI c)),(3,(.ref k 0 0)),(5,(.ref l 0 0)),(7,(gV x 2 J)),(9,(vI (w64 ((w64 ((w64 (a.To+(w64 (c*60000)))).tdiv 86400000))+1)))),(10,(vI b.2))]:SL_)) (λ(x:Nm)=>([(k,some (.cells 13 (Entry.v e))),(l,some (.cells 2 [(vI a.From),(vI a.To)])),(x,gB 2 Window.enc J),(H,some (.cells 2 [(vI h.From),(vI h.To)]))]:Hp)) (λ_=>True) ?_ ?_
        ·rcases aj n with⟨C,n⟩|⟨C,n⟩
         ·refine aB rfl C (av (aa (gV g 2 b.1) (aF 0 3 il ft zV Jo rfl rfl (.d (.agg (Window.enc h))) rfl wz (eD (([h]:List Window).map Window.enc) es71 ez71 rfl rfl rfl rfl rfl wz ?_))))
          obtain ⟨L,Q,n⟩:=bind_some n
          refine kY 0 il ft (i:=2) el71 el71 zV z77 rfl (by decide) by77 (by decide) (λ_=>rfl) rfl rfl rfl Q wz (λK=>aa (gV K 2 L) (af ?_))
          obtain rfl:=ae n
          exact aY K trivial rfl (aJ rfl)
         ·refine aA rfl C (ax ?_)
          obtain rfl:=ae n
          exact aY g trivial rfl (aJ rfl)
        ·rintro x _ I y o q
         refine aN _ o q (av (aa (vI b.2) (aa (vI (w64 (b.2+1))) (aa (vI (w64 (b.2+1))) (af ?_)))))
         obtain rfl:=ae f
         exact bf (w,(J,(w64 (b.2+1))),x) m (ls_ _) rfl (aJ rfl)
     ·refine aA rfl z (bg ?_)
      obtain rfl:=ae f
      obtain rfl:=ae m
      exact aY ((b.1,b.2),g) rfl rfl (aJ rfl)
   ·rintro ⟨b,g⟩ M I y o q
    subst M
    refine aN _ o q (ai (aa (gV g 2 b.1) (aa (gV g 2 b.1) (af ?_))))
    obtain rfl:=ae j
    exact ay (finG (outs:=([]:List Box)) (.inr rfl) 2 rfl rfl rfl (by kernel_rfl) (by kernel_rfl))
theorem Bn {h:Entry} {q:Int} {g:Window} {r:(List Window)×Int} (a:lI h q g=some r) :
  FnM Tryz.prog 29 [(.d (.agg (Entry.enc h))),(vI q),(.d (.agg (Window.enc g)))] [] (.tup [(vL Window.enc r.1),(vI r.2)]) []:=by
 refine FnM.of_wH ⟨Tryz.prog,45,[],[]⟩ rfl Tryz.func29 rfl rfl (lb_ rfl) (by kernel_rfl) ?_
 unfold lI at a
 refine ai (iW 0 (.inl rfl) (Entry.v h) rfl rfl wz (λE=>iW 0 (.inl rfl) [(vI g.From),(vI g.To)] rfl rfl wz (λA=>aa .nil (aa (vI 0) (af (ak (ai (aF 0 0 il ft Mt Oq rfl rfl (.d (.agg (Entry.enc h))) rfl wz (eD (([h]:List Entry).map Entry.enc) RJ ez110 rfl rfl rfl rfl rfl wz ?_)))))))))
 obtain ⟨l,N,a⟩:=bind_some a
 refine aD (uo N) rfl hb51 rfl rfl rfl rfl wz (aa (vI l) (af (ai (aa (vI l) (aa (vB (l != 0)) (af ?_))))))
 rcases aj a with⟨w,a⟩|⟨w,a⟩
 ·refine aB rfl w (ai (aa (vI l) (aa .nil (aa (vI l) (af ?_)))))
  obtain rfl:=ae a
  exact ay (aK [.nil,(vI l)] ⟨rfl,⟨rfl,trivial⟩⟩)
 ·refine aA rfl w (ax (ak (ai (aa (vI q) ?_))))
  obtain ⟨X,J,a⟩:=bind_some a
  refine aD (bv J) rfl rU rfl rfl rfl rfl wz (af ?_)
  rcases aj a with⟨t,a⟩|⟨t,a⟩
  ·refine aB rfl t (ai (aa .nil (aa (vI 1) (af ?_))))
   obtain rfl:=ae a
   exact ay (aK [.nil,(vI 1)] ⟨rfl,⟨rfl,trivial⟩⟩)
  ·refine aA rfl t (ax (ak (ai (aF 0 1 il ft zV Jo rfl rfl (.d (.agg (Window.enc g))) rfl wz ?_))))
   obtain ⟨j,K,a⟩:=bind_some a
   refine aD (uL K) rfl hb53 rfl rfl rfl rfl wz (aa (vI j) (af (ai (aa (vI j) (aa (vB (j != 0)) (af ?_))))))
   rcases aj a with⟨u,a⟩|⟨u,a⟩
   ·refine aB rfl u (ai (aa (vI j) (aa .nil (aa (vI j) (af ?_)))))
    obtain rfl:=ae a
    exact ay (aK [.nil,(vI j)] ⟨rfl,⟨rfl,trivial⟩⟩)
   ·refine aA rfl u (ax (ai (aF 0 0 il ft Mt Oq rfl rfl (.d (.agg (Entry.enc h))) rfl wz (aa (vI q) (aF 0 1 il ft zV Jo rfl rfl (.d (.agg (Window.enc g))) rfl wz ?_)))))
    obtain ⟨i,L,a⟩:=bind_some a
    refine h_callg [] (zU L) rfl hb54 rfl (by kernel_rfl) (by kernel_rfl) (by kernel_rfl) (by kernel_rfl) (by kernel_rfl) rfl (by decide) (by kernel_rfl) wz ([(E,some (.cells 13 (Entry.v h))),(A,some (.cells 2 [(vI g.From),(vI g.To)]))]:Hp) (λ_=>by kernel_rfl) (λf=>aa (gV f 2 i) (af (ak (ai (aa (gV f 2 i) (rG un71 rfl wz (aa (vI 0) (af ?_))))))))
    obtain ⟨Q,y,a⟩:=bind_some a
    obtain ⟨F,y⟩:=aZ y
    refine dh (λ(b:List Window)=>[(10,(gV f 2 b))]) (λ(b:List Window)=>[(E,some (.cells 13 (Entry.v h))),(A,some (.cells 2 [(vI g.From),(vI g.To)])),(f,gB 2 Window.enc b)]) (λ(c:Nat)=>(λ(b:List Window)=>[(5,(.ref A 0 0)),(10,(gV f 2 b)),(30,(gV f 2 b)),(31,(vI (i.length:Int))),(32,(vI (c:Int)))])) (λk x s=>lq g k x s) Q (List.range ((i.length:Int)).toNat) i y rfl (aJ rfl) ?_ ?_
    ·rintro ⟨c,z,b⟩ ⟨n,m⟩
     dsimp only at n m
     cases z with
     | nil =>
      obtain rfl:=ae n
      refine ai (aa (vB (decide ((c:Int)<(i.length:Int)))) (af ?_))
      refine ak (aA rfl (Cf m) (bg ?_))
      exact aY (b) rfl rfl (aJ rfl)
     | cons Z z =>
      obtain ⟨T,e,n⟩:=bind_some n
      refine ai (aa (vB (decide ((c:Int)<(i.length:Int)))) (af ?_))
      refine ak (aB rfl (zR m) (ax ?_))
      unfold lq at e
      refine ak (aM (ai (aa (vI (c:Int)) ?_)))
      obtain ⟨_,B,e⟩:=bind_some e
      refine vo es71 rfl rfl (lC B) (iR B) wz ?_
      obtain ⟨p,O,e⟩:=bind_some e
      refine o8 0 2 il ft zV Jo rfl rfl O (.d (.agg (Window.enc p))) rfl wz (dP 0 (.inl rfl) z77 rfl wz (λW=>aa (vI (c:Int)) (gy 0 il ft 3 zV rfl rfl [(vI p.From),(vI p.To)] rfl wz (af (av (aa (gV f 2 b) (aa (vI (c:Int)) (aF 0 3 il ft zV Jo rfl rfl (.d (.agg (Window.enc p))) rfl wz (aF 0 1 il ft zV Jo rfl rfl (.d (.agg (Window.enc g))) rfl wz ?_)))))))))
      obtain ⟨o,M,e⟩:=bind_some e
      refine aD (Dn M) rfl hb55 rfl rfl rfl rfl wz ?_
      obtain ⟨_,C,e⟩:=bind_some e
      refine vo es71 rfl rfl (lC C) (iR C) wz ?_
      obtain ⟨U,P,e⟩:=bind_some e
      refine BB 0 il ft 2 zV rfl rfl P o rfl wz (gD (v':=(gV f 2 (b.set (0+((c:Int)).toNat) o))) 10 rfl (l6 (by simp)) (gD (v':=(gV f 2 (b.set (0+((c:Int)).toNat) o))) 30 rfl (l6 (by simp)) (gD (v':=(gV f 2 (b.set (0+((c:Int)).toNat) o))) 37 rfl (l6 (by simp)) (af (av (fC (Cv m F) wz rfl (aa (vI ((c+1:Nat):Int)) (af ?_))))))))
      obtain rfl:=ae e
      exact bf (c+1,z,(b.set (0+((c:Int)).toNat) o)) ⟨n,aW m⟩ (ls_ _) rfl (aJ rfl)
    ·rintro b G Y R H I
     subst G
     refine aN _ H I (ai (aa (gV f 2 b) (aa (gV f 2 b) (aa (vI 0) (af (ig 2 rfl (fT 6 2 rfl rfl (fT 10 2 rfl rfl (fT 44 2 rfl rfl ?_)))))))))
     obtain rfl:=ae a
     exact ay (aK [(vL Window.enc b),(vI 0)] ⟨rfl,⟨rfl,trivial⟩⟩)
theorem Al {a:Window} {r:Bool} (c:o5 a=some r) :
  FnM Tryz.prog 96 [(.d (.agg (Window.enc a)))] [] (vB r) []:=by
 refine FnM.of_wH ⟨Tryz.prog,18,[],[]⟩ rfl Tryz.func96 rfl rfl (lb_ rfl) (by kernel_rfl) ?_
 unfold o5 at c
 refine ai (iW 0 (.inl rfl) [(vI a.From),(vI a.To)] rfl rfl wz (λj=>aa (vB false) (af (ak ?_))))
 obtain ⟨g,b,c⟩:=bind_some c
 refine aP [(2,(vB g))] [(j,some (.cells 2 [(vI a.From),(vI a.To)]))] ?_ ?_
 ·refine av (aG pM rfl 0 rfl wz (aF 0 0 il ft sz3 ag3 rfl rfl (vI a.From) rfl wz (aa (vB (decide (a.From>=0))) ?_)))
  rcases aj b with⟨e,b⟩|⟨e,b⟩
  ·refine aC rfl e wz (aG pM rfl 0 rfl wa (aF 0 0 il ft sz3 ag3 rfl rfl (vI a.From) rfl wa (aG pE rfl 1 rfl wa (aF 0 0 il ft sz3 ag3 rfl rfl (vI a.To) rfl wa (aI (vB (decide (a.From<a.To))) wa rfl (aa (vB (decide (a.From<a.To))) ?_))))))
   rcases aj b with⟨f,b⟩|⟨f,b⟩
   ·refine aC rfl f wz (aG pE rfl 1 rfl wa (aF 0 0 il ft sz3 ag3 rfl rfl (vI a.To) rfl wa (aI (vB (decide (a.To<=345686400000))) wa rfl (aa (vB (decide (a.To<=345686400000))) (aa (vB (decide (a.To<=345686400000))) (af ?_))))))
    obtain rfl:=ae b
    exact cu
   ·refine aC rfl f wz (ah (ah (ah (aa (vB false) (aa (vB false) (af ?_))))))
    obtain rfl:=ae b
    exact cu
  ·refine aC rfl e wz (ah (ah (ah (ah (ah (aa (vB false) (aa (vB false) (ah (ah (ah (aa (vB false) (aa (vB false) (af ?_)))))))))))))
   obtain rfl:=ae b
   exact cu
 ·rintro ⟨⟩ _ l k h i
  refine aN _ h i ?_
  obtain rfl:=ae c
  exact ay (aK [(vB g)] ⟨rfl,trivial⟩)
theorem xR {b:(List ByteArray)} {r:Int} (a:jI b=some r) :
  FnM Tryz.prog 97 [(vL eS b)] [] (vI r) []:=by
 refine FnM.of_wH ⟨Tryz.prog,8,[],[]⟩ rfl Tryz.func97 rfl rfl (lb_ rfl) (by kernel_rfl) ?_
 unfold jI at a
 refine ai (aa (vI 0) (af (ak (ai (aa (vL eS b) (bL ru rfl wz (aa (vB (decide ((b.length:Int)>20))) (af ?_))))))))
 rcases aj a with⟨c,a⟩|⟨c,a⟩
 ·refine aB rfl c (ai (aa (vI 2) (af ?_)))
  obtain rfl:=ae a
  exact ay (aK [(vI 2)] ⟨rfl,trivial⟩)
 ·refine aA rfl c (ax (ai (aa (vL eS b) ?_)))
  obtain ⟨d,e,a⟩:=bind_some a
  refine aD (sG e) rfl hb129 rfl rfl rfl rfl wz (aa (vI d) (af ?_))
  obtain rfl:=ae a
  exact ay (aK [(vI d)] ⟨rfl,trivial⟩)
theorem tq {b:(List Campaign)} {r:Int} (h:fQ b=some r) :
  FnM Tryz.prog 56 [(vL Campaign.enc b)] [] (vI r) []:=by
 refine FnM.of_wH ⟨Tryz.prog,73,[],[]⟩ rfl Tryz.func56 rfl rfl (lb_ rfl) (by kernel_rfl) ?_
 unfold fQ at h
 refine ai (aa (vI 0) (af (ak (ai (aa (vL Campaign.enc b) (bL un116 rfl wz (aa (vB (decide ((b.length:Int)>30))) (af ?_))))))))
 rcases aj h with⟨A,h⟩|⟨A,h⟩
 ·refine aB rfl A (ai (aa (vI 2) (af ?_)))
  obtain rfl:=ae h
  exact ay (aK [(vI 2)] ⟨rfl,trivial⟩)
 ·refine aA rfl A (ax (ak (ai (aa (vL Campaign.enc b) (bL un116 rfl wz (aa (vI 0) (af ?_)))))))
  obtain ⟨À,K,h⟩:=bind_some h
  obtain ⟨O,K⟩:=aZ K
  refine dh (λ(q:Unit)=>[]) (λ(q:Unit)=>[]) (λ(f:Nat)=>(λ(q:Unit)=>[(0,(vL Campaign.enc b)),(9,(vL Campaign.enc b)),(10,(vI (b.length:Int))),(11,(vI (f:Int)))])) (λk x s=>eY b k x s) À b () K rfl (aJ rfl) ?_ ?_
  ·rintro ⟨f,L,q⟩ ⟨i,n⟩
   dsimp only at i n
   cases L with
   | nil =>
    obtain rfl:=ae i
    refine ai (aa (vB (decide ((f:Int)<(b.length:Int)))) (af ?_))
    refine ak (aA rfl (drop_nil n) (bg ?_))
    exact aY (q) rfl rfl (aJ rfl)
   | cons e L =>
    obtain ⟨È,a,i⟩:=bind_some i
    refine ai (aa (vB (decide ((f:Int)<(b.length:Int)))) (af ?_))
    refine ak (aB rfl (bz n) (ax ?_))
    unfold eY at a
    refine ak (aM (ai (aa (vI (f:Int)) (dC Qq rfl rfl (bI n) rfl wz (bC sz80 ag80 rfl (.d (.agg (Campaign.enc e))) rfl wz (dP 0 (.inl rfl) z80 rfl wz (λo=>aa (vI (f:Int)) (gy 0 il ft 0 sz80 rfl rfl (Campaign.v e) rfl wz (af (ak (aM (ak ?_))))))))))))
    obtain ⟨Å,g,a⟩:=bind_some a
    refine aP [(0,(vL Campaign.enc b)),(3,(vI (f:Int))),(4,(.ref o 0 0)),(9,(vL Campaign.enc b)),(10,(vI (b.length:Int))),(11,(vI (f:Int))),(16,(vB Å))] [(o,some (.cells 8 (Campaign.v e)))] ?_ ?_
    ·refine av (aG Ms rfl 0 rfl wz (aF 0 0 il ft sz9 ag9 rfl rfl (vS e.Key) rfl wz ?_))
     obtain ⟨Á,Q,g⟩:=bind_some g
     refine aD (fU Q) rfl Fw rfl rfl rfl rfl wz (aa (vB (!Á)) ?_)
     rcases aj g with⟨y,g⟩|⟨y,g⟩
     ·refine aC rfl y wz (ah (ah (ah (ah (bR (wn rfl rfl) (bR (wn rfl rfl) (bR (wn rfl rfl) (bR (wn rfl rfl) (ah (aa (vB true) (aa (vB true) (af ?_))))))))))))
      obtain rfl:=ae g
      exact cu
     ·refine aC rfl y wz (aG QK rfl 1 rfl wa (aF 0 0 il ft sz9 ag9 rfl rfl (vS e.Class) rfl wa (aI (vB (sNe e.Class (⟨#[]⟩:ByteArray))) wa rfl ?_)))
      rcases aj g with⟨z,g⟩|⟨z,g⟩
      ·refine aC rfl z wa (aG QK rfl 1 rfl wa (aF 0 0 il ft sz9 ag9 rfl rfl (vS e.Class) rfl wa ?_))
       obtain ⟨u,R,g⟩:=bind_some g
       refine aD (fU R) rfl Fw rfl rfl rfl rfl wa (aI (vB (!u)) wa rfl (aI (vB (!u)) wa rfl (aa (vB (!u)) (aa (vB (!u)) (af ?_)))))
       obtain rfl:=ae g
       exact cu
      ·refine aC rfl z wa (ah (ah (ah (ah (aI (vB false) wa rfl (aa (vB false) (aa (vB false) (af ?_))))))))
       obtain rfl:=ae g
       exact cu
    ·rintro ⟨⟩ _ M w l m
     refine aN _ l m ?_
     rcases aj a with⟨B,a⟩|⟨B,a⟩
     ·refine aB rfl B (ai (aa (vI 5) (af ?_)))
      obtain rfl:=ae a
      obtain rfl:=ae i
      obtain rfl:=ae h
      exact ay (aK [(vI 5)] ⟨rfl,trivial⟩)
     ·refine aA rfl B (ak ?_)
      obtain ⟨Æ,j,a⟩:=bind_some a
      refine aP [(0,(vL Campaign.enc b)),(4,(.ref o 0 0)),(9,(vL Campaign.enc b)),(10,(vI (b.length:Int))),(11,(vI (f:Int))),(32,(vB Æ))] [(o,some (.cells 8 (Campaign.v e)))] ?_ ?_
      ·refine bD (aa (vI (f:Int)) (aa (vB (decide ((f:Int)>0))) ?_))
       rcases aj j with⟨C,j⟩|⟨C,j⟩
       ·refine aC rfl C wz (aG Ms rfl 0 rfl wa (aF 4 0 (.inr (by kernel_rfl)) (λ_ _ ag=>trivial) sz9 ag9 rfl rfl (vS e.Key) rfl wa (aI (vL Campaign.enc b) wa rfl (aI (vI (f:Int)) wa rfl (aI (vI (w64 ((f:Int)-1))) wa rfl ?_)))))
        obtain ⟨t,Z,j⟩:=bind_some j
        refine dC Qq rfl rfl Z rfl wa (si Ms rfl (Campaign.enc t) rfl rfl wa (bC sz9 ag9 rfl (vS t.Key) rfl wa (aI (vB (sLe e.Key t.Key)) wa rfl (aa (vB (sLe e.Key t.Key)) (aa (vB (sLe e.Key t.Key)) (af ?_))))))
        obtain rfl:=ae j
        exact cu
       ·refine aC rfl C wz (ah (ah (ah (ah (ah (ah (ah (ah (ah (aa (vB false) (aa (vB false) (af ?_))))))))))))
        obtain rfl:=ae j
        exact cu
      ·rintro ⟨⟩ _ M w l m
       refine aN _ l m ?_
       rcases aj a with⟨E,a⟩|⟨E,a⟩
       ·refine aB rfl E (ai (aa (vI 7) (af ?_)))
        obtain rfl:=ae a
        obtain rfl:=ae i
        obtain rfl:=ae h
        exact ay (aK [(vI 7)] ⟨rfl,trivial⟩)
       ·refine aA rfl E (ak ?_)
        obtain ⟨Ç,c,a⟩:=bind_some a
        refine aP [(0,(vL Campaign.enc b)),(4,(.ref o 0 0)),(9,(vL Campaign.enc b)),(10,(vI (b.length:Int))),(11,(vI (f:Int))),(46,(vB Ç))] [(o,some (.cells 8 (Campaign.v e)))] ?_ ?_
        ·refine av (aG BX rfl 2 rfl wz (aF 0 0 il ft zV Jo rfl rfl (.d (.agg (Window.enc e.Time))) rfl wz ?_))
         obtain ⟨Â,T,c⟩:=bind_some c
         refine aD (Al T) rfl hb96 rfl rfl rfl rfl wz (aa (vB (!Â)) ?_)
         rcases aj c with⟨F,c⟩|⟨F,c⟩
         ·refine aC rfl F wz (ah (ah (ah (aa (vB true) (aa (vB true) (ah (ah (ah (aa (vB true) (aa (vB true) (ah (ah (ah (aa (vB true) (aa (vB true) (af ?_))))))))))))))))
          obtain rfl:=ae c
          exact cu
         ·refine aC rfl F wz (aG Lx rfl 5 rfl wa (aF 0 0 il ft sz3 ag3 rfl rfl (vI e.Goal) rfl wa ?_))
          obtain ⟨Ã,U,c⟩:=bind_some c
          refine aD (bv U) rfl rU rfl rfl rfl rfl wa (aa (vB Ã) ?_)
          rcases aj c with⟨G,c⟩|⟨G,c⟩
          ·refine aC rfl G wz (ah (ah (ah (aa (vB true) (aa (vB true) (ah (ah (ah (aa (vB true) (aa (vB true) (af ?_)))))))))))
           obtain rfl:=ae c
           exact cu
          ·refine aC rfl G wz (aG pl80_5 rfl 6 rfl wa (aF 0 0 il ft sz3 ag3 rfl rfl (vI e.Most) rfl wa ?_))
           obtain ⟨Ä,W,c⟩:=bind_some c
           refine aD (bv W) rfl rU rfl rfl rfl rfl wa (aa (vB Ä) ?_)
           rcases aj c with⟨H,c⟩|⟨H,c⟩
           ·refine aC rfl H wz (ah (ah (ah (aa (vB true) (aa (vB true) (af ?_))))))
            obtain rfl:=ae c
            exact cu
           ·refine aC rfl H wz (aG pl80_6 rfl 7 rfl wa (aF 0 0 il ft sz3 ag3 rfl rfl (vI e.Cents) rfl wa ?_))
            obtain ⟨N,X,c⟩:=bind_some c
            refine aD (bv X) rfl rU rfl rfl rfl rfl wa (aa (vB N) (aa (vB N) (af ?_)))
            obtain rfl:=ae c
            exact cu
        ·rintro ⟨⟩ _ M w l m
         refine aN _ l m ?_
         rcases aj a with⟨I,a⟩|⟨I,a⟩
         ·refine aB rfl I (ai (aa (vI 1) (af ?_)))
          obtain rfl:=ae a
          obtain rfl:=ae i
          obtain rfl:=ae h
          exact ay (aK [(vI 1)] ⟨rfl,trivial⟩)
         ·refine aA rfl I (ax (ai (aG pl80_3 rfl 4 rfl wz (aF 0 0 il ft Ar Ep rfl rfl (vL eS e.Tags) rfl wz ?_))))
          obtain ⟨p,Y,a⟩:=bind_some a
          refine aD (xR Y) rfl hb97 rfl rfl rfl rfl wz (aa (vI p) (af (ai (aa (vI p) (aa (vB (p != 0)) (af ?_))))))
          rcases aj a with⟨J,a⟩|⟨J,a⟩
          ·refine aB rfl J (ai (aa (vI p) (aa (vI p) (af ?_))))
           obtain rfl:=ae a
           obtain rfl:=ae i
           obtain rfl:=ae h
           exact ay (aK [(vI p)] ⟨rfl,trivial⟩)
          ·refine aA rfl J (ax (av (fC (bG n O) wz rfl (aa (vI ((f+1:Nat):Int)) (af ?_)))))
           obtain rfl:=ae a
           exact bf (f+1,L,()) ⟨i,aW n⟩ (ls_ _) rfl (aJ rfl)
  ·rintro q P M w l m
   subst P
   refine aN _ l m (ai (aa (vI 0) (af ?_)))
   obtain rfl:=ae h
   exact ay (aK [(vI 0)] ⟨rfl,trivial⟩)
theorem Fz {a:Campaign} {c:Int} {r:Int} (b:tJ a c=some r) :
  FnM Tryz.prog 58 [(.d (.agg (Campaign.enc a))),(vI c)] [] (vI r) []:=by
 refine FnM.of_wH ⟨Tryz.prog,35,[],[]⟩ rfl Tryz.func58 rfl rfl (lb_ rfl) (by kernel_rfl) ?_
 unfold tJ at b
 refine ai (iW 0 (.inl rfl) (Campaign.v a) rfl rfl wz (λi=>aa (vI 0) (af (ak (aM (ai (aa (vI c) (aG BX rfl 2 rfl wz (aG pM rfl 2 rfl wz (aF 0 0 il ft sz3 ag3 rfl rfl (vI a.Time.From) rfl wz (aa (vB (decide (c<a.Time.From))) (aa (vB (decide (c<a.Time.From))) (af ?_)))))))))))))
 rcases aj b with⟨e,b⟩|⟨e,b⟩
 ·refine aB rfl e (ai (aa (vI 0) (af ?_)))
  obtain rfl:=ae b
  exact ay (aK [(vI 0)] ⟨rfl,trivial⟩)
 ·refine aA rfl e (ai (aa (vI c) (aG BX rfl 2 rfl wz (aG pE rfl 3 rfl wz (aF 0 0 il ft sz3 ag3 rfl rfl (vI a.Time.To) rfl wz (aa (vB (decide (c>=a.Time.To))) (aa (vB (decide (c>=a.Time.To))) (af ?_))))))))
  rcases aj b with⟨f,b⟩|⟨f,b⟩
  ·refine aB rfl f (ai (aG Lx rfl 5 rfl wz (aF 0 0 il ft sz3 ag3 rfl rfl (vI a.Goal) rfl wz (aa (vI a.Goal) (af ?_)))))
   obtain rfl:=ae b
   exact ay (aK [(vI a.Goal)] ⟨rfl,trivial⟩)
  ·refine aA rfl f (ax (ai (aG Lx rfl 5 rfl wz (aF 0 0 il ft sz3 ag3 rfl rfl (vI a.Goal) rfl wz (aa (vI c) (aG BX rfl 2 rfl wz (aG pM rfl 2 rfl wz (aF 0 0 il ft sz3 ag3 rfl rfl (vI a.Time.From) rfl wz (aa (vI (w64 (c-a.Time.From))) (aa (vI (w64 (a.Goal*(w64 (c-a.Time.From))))) (aG BX rfl 2 rfl wz (aG pE rfl 3 rfl wz (aF 0 0 il ft sz3 ag3 rfl rfl (vI a.Time.To) rfl wz (aG BX rfl 2 rfl wz (aG pM rfl 2 rfl wz (aF 0 0 il ft sz3 ag3 rfl rfl (vI a.Time.From) rfl wz (aa (vI (w64 (a.Time.To-a.Time.From))) ?_)))))))))))))))))
   obtain ⟨g,h,b⟩:=bind_some b
   refine QG rfl rfl h wz (aa (vI g) (af (aN (H0:=([(i,some (.cells 8 (Campaign.v a)))]:Hp)) ([(4,(vI g))]:SL_) (by kernel_rfl) (ul (by kernel_rfl)) ?_)))
   obtain rfl:=ae b
   exact ay (aK [(vI g)] ⟨rfl,trivial⟩)
theorem EZ {b:Campaign} {e:Int} {r:Int×Int} (a:qi b e=some r) :
  FnM Tryz.prog 30 [(.d (.agg (Campaign.enc b))),(vI e)] [] (.tup [(vI r.1),(vI r.2)]) []:=by
 refine FnM.of_wH ⟨Tryz.prog,19,[],[]⟩ rfl Tryz.func30 rfl rfl (lb_ rfl) (by kernel_rfl) ?_
 unfold qi at a
 refine ai (iW 0 (.inl rfl) (Campaign.v b) rfl rfl wz (λm=>aa (vI 0) (aa (vI 0) (af (ak (ai (aF 0 0 il ft sz80 ag80 rfl rfl (.d (.agg (Campaign.enc b))) rfl wz (eD (([b]:List Campaign).map Campaign.enc) Qq ez116 rfl rfl rfl rfl rfl wz ?_))))))))
 obtain ⟨c,j,a⟩:=bind_some a
 refine aD (tq j) rfl hb56 rfl rfl rfl rfl wz (aa (vI c) (af (ai (aa (vI c) (aa (vB (c != 0)) (af ?_))))))
 rcases aj a with⟨f,a⟩|⟨f,a⟩
 ·refine aB rfl f (ai (aa (vI c) (aa (vI 0) (aa (vI c) (af ?_)))))
  obtain rfl:=ae a
  exact ay (aK [(vI 0),(vI c)] ⟨rfl,⟨rfl,trivial⟩⟩)
 ·refine aA rfl f (ax (ak (ai (aa (vI e) ?_))))
  obtain ⟨l,k,a⟩:=bind_some a
  refine aD (iI k) rfl Mj rfl rfl rfl rfl wz (aa (vB (!l)) (af ?_))
  rcases aj a with⟨g,a⟩|⟨g,a⟩
  ·refine aB rfl g (ai (aa (vI 0) (aa (vI 1) (af ?_))))
   obtain rfl:=ae a
   exact ay (aK [(vI 0),(vI 1)] ⟨rfl,⟨rfl,trivial⟩⟩)
  ·refine aA rfl g (ax (ai (aF 0 0 il ft sz80 ag80 rfl rfl (.d (.agg (Campaign.enc b))) rfl wz (aa (vI e) ?_))))
   obtain ⟨h,i,a⟩:=bind_some a
   refine aD (Fz i) rfl hb58 rfl rfl rfl rfl wz (aa (vI h) (aa (vI 0) (af ?_)))
   obtain rfl:=ae a
   exact ay (aK [(vI h),(vI 0)] ⟨rfl,⟨rfl,trivial⟩⟩)
theorem w9 {b:Beat} {c:Beat} {r:Int} (a:kw b c=some r) :
  FnM Tryz.prog 130 [(.d (.agg (Beat.enc b))),(.d (.agg (Beat.enc c)))] [] (vI r) []:=by
 refine FnM.of_wH ⟨Tryz.prog,17,[],[]⟩ rfl Tryz.func130 rfl rfl (lb_ rfl) (by kernel_rfl) ?_
 unfold kw at a
 refine ai (iW 0 (.inl rfl) (Beat.v b) rfl rfl wz (λk=>iW 0 (.inl rfl) (Beat.v c) rfl rfl wz (λl=>aa (vI 0) (af (ak (bD (aG BK rfl 0 rfl wz (aF 1 0 (.inr (by kernel_rfl)) (λ_ _ ag=>trivial) sz9 ag9 rfl rfl (vS b.Player) rfl wz (aG BK rfl 0 rfl wz (aF 3 1 (.inr (by kernel_rfl)) (λ_ _ ag=>⟨.inl ⟨rfl,rfl⟩,trivial⟩) sz9 ag9 rfl rfl (vS c.Player) rfl wz ?_))))))))))
 obtain ⟨i,g,a⟩:=bind_some a
 refine aD (rR g) rfl hb79 rfl rfl rfl rfl wz (aG Ff rfl 1 rfl wz (aF 6 0 (.inr (by kernel_rfl)) (λ_ _ ag=>⟨.inl ⟨rfl,rfl⟩,⟨.inl ⟨rfl,rfl⟩,trivial⟩⟩) sz3 ag3 rfl rfl (vI b.At) rfl wz (aG Ff rfl 1 rfl wz (aF 8 1 (.inr (by kernel_rfl)) (λ_ _ ag=>⟨.inl ⟨rfl,rfl⟩,⟨.inl ⟨rfl,rfl⟩,⟨.inl ⟨rfl,rfl⟩,trivial⟩⟩⟩) sz3 ag3 rfl rfl (vI c.At) rfl wz ?_))))
 obtain ⟨j,h,a⟩:=bind_some a
 refine aD (sw h) rfl hb78 rfl rfl rfl rfl wz (eD (([i,j]:List Int).map eI) lG Dt rfl rfl rfl rfl rfl wz ?_)
 obtain ⟨e,f,a⟩:=bind_some a
 refine aD (zb f) rfl hb77 rfl rfl rfl rfl wz (aa (vI e) (af ?_))
 obtain rfl:=ae a
 exact ay (aK [(vI e)] ⟨rfl,trivial⟩)
theorem yM {b:(List Beat)} {r:Int} (g:jO b=some r) :
  FnM Tryz.prog 98 [(vL Beat.enc b)] [] (vI r) []:=by
 refine FnM.of_wH ⟨Tryz.prog,69,[],[]⟩ rfl Tryz.func98 rfl rfl (lb_ rfl) (by kernel_rfl) ?_
 unfold jO at g
 refine ai (aa (vI 0) (af (ak (ai (aa (vL Beat.enc b) (bL un84 rfl wz (aa (vB (decide ((b.length:Int)>500))) (af ?_))))))))
 rcases aj g with⟨y,g⟩|⟨y,g⟩
 ·refine aB rfl y (ai (aa (vI 2) (af ?_)))
  obtain rfl:=ae g
  exact ay (aK [(vI 2)] ⟨rfl,trivial⟩)
 ·refine aA rfl y (ax (ak (ai (aa (vL Beat.enc b) (bL un84 rfl wz (aa (vI 0) (af ?_)))))))
  obtain ⟨Y,H,g⟩:=bind_some g
  obtain ⟨N,H⟩:=aZ H
  refine dh (λ(q:Unit)=>[]) (λ(q:Unit)=>[]) (λ(c:Nat)=>(λ(q:Unit)=>[(0,(vL Beat.enc b)),(8,(vL Beat.enc b)),(9,(vI (b.length:Int))),(10,(vI (c:Int)))])) (λk x s=>iO b k x s) Y b () H rfl (aJ rfl) ?_ ?_
  ·rintro ⟨c,I,q⟩ ⟨h,n⟩
   dsimp only at h n
   cases I with
   | nil =>
    obtain rfl:=ae h
    refine ai (aa (vB (decide ((c:Int)<(b.length:Int)))) (af ?_))
    refine ak (aA rfl (drop_nil n) (bg ?_))
    exact aY (q) rfl rfl (aJ rfl)
   | cons e I =>
    obtain ⟨Ä,a,h⟩:=bind_some h
    refine ai (aa (vB (decide ((c:Int)<(b.length:Int)))) (af ?_))
    refine ak (aB rfl (bz n) (ax ?_))
    unfold iO at a
    refine ak (aM (ai (aa (vI (c:Int)) (dC Pe rfl rfl (bI n) rfl wz (bC Ou ag83 rfl (.d (.agg (Beat.enc e))) rfl wz (dP 0 (.inl rfl) z83 rfl wz (λp=>aa (vI (c:Int)) (gy 0 il ft 0 Ou rfl rfl (Beat.v e) rfl wz (af (aM (ai (aG BK rfl 0 rfl wz (aF 0 0 il ft sz9 ag9 rfl rfl (vS e.Player) rfl wz ?_)))))))))))))
    obtain ⟨L,P,a⟩:=bind_some a
    refine aD (fU P) rfl Fw rfl rfl rfl rfl wz (aa (vB (!L)) (aa (vB (!L)) (af ?_)))
    rcases aj a with⟨w,a⟩|⟨w,a⟩
    ·refine aB rfl w (ai (aa (vI 5) (af ?_)))
     obtain rfl:=ae a
     obtain rfl:=ae h
     obtain rfl:=ae g
     exact ay (aK [(vI 5)] ⟨rfl,trivial⟩)
    ·refine aA rfl w (ak ?_)
     obtain ⟨À,i,a⟩:=bind_some a
     refine aP [(0,(vL Beat.enc b)),(3,(vI (c:Int))),(4,(.ref p 0 0)),(8,(vL Beat.enc b)),(9,(vI (b.length:Int))),(10,(vI (c:Int))),(20,(vB À))] [(p,some (.cells 3 (Beat.v e)))] ?_ ?_
     ·refine av (aG Ff rfl 1 rfl wz (aF 0 0 il ft sz3 ag3 rfl rfl (vI e.At) rfl wz ?_))
      obtain ⟨Z,Q,i⟩:=bind_some i
      refine aD (iI Q) rfl Mj rfl rfl rfl rfl wz (aa (vB (!Z)) ?_)
      rcases aj i with⟨z,i⟩|⟨z,i⟩
      ·refine aC rfl z wz (ah (ah (ah (aa (vB true) (aa (vB true) (af ?_))))))
       obtain rfl:=ae i
       exact cu
      ·refine aC rfl z wz (aG Fa rfl 2 rfl wa (aF 0 0 il ft sz3 ag3 rfl rfl (vI e.Clock) rfl wa ?_))
       obtain ⟨M,R,i⟩:=bind_some i
       refine aD (bv R) rfl rU rfl rfl rfl rfl wa (aa (vB M) (aa (vB M) (af ?_)))
       obtain rfl:=ae i
       exact cu
     ·rintro ⟨⟩ _ K u l m
      refine aN _ l m ?_
      rcases aj a with⟨A,a⟩|⟨A,a⟩
      ·refine aB rfl A (ai (aa (vI 1) (af ?_)))
       obtain rfl:=ae a
       obtain rfl:=ae h
       obtain rfl:=ae g
       exact ay (aK [(vI 1)] ⟨rfl,trivial⟩)
      ·refine aA rfl A (ak ?_)
       obtain ⟨Á,j,a⟩:=bind_some a
       refine aP [(0,(vL Beat.enc b)),(3,(vI (c:Int))),(4,(.ref p 0 0)),(8,(vL Beat.enc b)),(9,(vI (b.length:Int))),(10,(vI (c:Int))),(30,(vB Á))] [(p,some (.cells 3 (Beat.v e)))] ?_ ?_
       ·refine bD (aa (vI (c:Int)) (aa (vB (decide ((c:Int)>0))) ?_))
        rcases aj j with⟨B,j⟩|⟨B,j⟩
        ·refine aC rfl B wz (aI (vL Beat.enc b) wa rfl (aI (vI (c:Int)) wa rfl (aI (vI (w64 ((c:Int)-1))) wa rfl ?_)))
         obtain ⟨Ã,U,j⟩:=bind_some j
         refine dC Pe rfl rfl U rfl wa (bC Ou ag83 rfl (.d (.agg (Beat.enc Ã))) rfl wa (aF 8 0 (.inr (by kernel_rfl)) (λ_ _ ag=>trivial) Ou ag83 rfl rfl (.d (.agg (Beat.enc e))) rfl wa ?_))
         obtain ⟨J,T,j⟩:=bind_some j
         refine aD (w9 T) rfl hb130 rfl rfl rfl rfl wa (aI (vB (decide (J>=0))) wa rfl (aa (vB (decide (J>=0))) (aa (vB (decide (J>=0))) (af ?_))))
         obtain rfl:=ae j
         exact cu
        ·refine aC rfl B wz (ah (ah (ah (ah (ah (ah (ah (ah (aa (vB false) (aa (vB false) (af ?_)))))))))))
         obtain rfl:=ae j
         exact cu
       ·rintro ⟨⟩ _ K u l m
        refine aN _ l m ?_
        rcases aj a with⟨C,a⟩|⟨C,a⟩
        ·refine aB rfl C (ai (aa (vI 7) (af ?_)))
         obtain rfl:=ae a
         obtain rfl:=ae h
         obtain rfl:=ae g
         exact ay (aK [(vI 7)] ⟨rfl,trivial⟩)
        ·refine aA rfl C (ak ?_)
         obtain ⟨Â,f,a⟩:=bind_some a
         refine aP [(0,(vL Beat.enc b)),(8,(vL Beat.enc b)),(9,(vI (b.length:Int))),(10,(vI (c:Int))),(43,(vB Â))] [(p,some (.cells 3 (Beat.v e)))] ?_ ?_
         ·refine bD (aa (vI (c:Int)) (aa (vB (decide ((c:Int)>0))) ?_))
          rcases aj f with⟨E,f⟩|⟨E,f⟩
          ·refine aC rfl E wz (aG BK rfl 0 rfl wa (aF 4 0 (.inr (by kernel_rfl)) (λ_ _ ag=>trivial) sz9 ag9 rfl rfl (vS e.Player) rfl wa (aI (vL Beat.enc b) wa rfl (aI (vI (c:Int)) wa rfl (aI (vI (w64 ((c:Int)-1))) wa rfl ?_)))))
           obtain ⟨o,W,f⟩:=bind_some f
           refine dC Pe rfl rfl W rfl wa (si BK rfl [.str o.Player,.int .i64 o.At,.int .i64 o.Clock] rfl rfl wa (bC sz9 ag9 rfl (vS o.Player) rfl wa (aI (vB (sEq e.Player o.Player)) wa rfl (aa (vB (sEq e.Player o.Player)) ?_))))
           rcases aj f with⟨F,f⟩|⟨F,f⟩
           ·refine aC rfl F wz (aG Fa rfl 2 rfl wa (aF 15 0 (.inr (by kernel_rfl)) (λ_ _ ag=>⟨.inl ⟨rfl,rfl⟩,trivial⟩) sz3 ag3 rfl rfl (vI e.Clock) rfl wa (aI (vL Beat.enc b) wa rfl (aI (vI (c:Int)) wa rfl (aI (vI (w64 ((c:Int)-1))) wa rfl ?_)))))
            obtain ⟨t,X,f⟩:=bind_some f
            refine dC Pe rfl rfl X rfl wa (si Fa rfl [.int .i64 t.Clock] rfl rfl wa (bC sz3 ag3 rfl (vI t.Clock) rfl wa (aI (vB (decide (e.Clock<=t.Clock))) wa rfl (aa (vB (decide (e.Clock<=t.Clock))) (aa (vB (decide (e.Clock<=t.Clock))) (af ?_))))))
            obtain rfl:=ae f
            exact cu
           ·refine aC rfl F wz (ah (ah (ah (ah (ah (ah (ah (ah (ah (aa (vB false) (aa (vB false) (af ?_))))))))))))
            obtain rfl:=ae f
            exact cu
          ·refine aC rfl E wz (ah (ah (ah (ah (ah (ah (ah (ah (ah (aa (vB false) (aa (vB false) (ah (ah (ah (ah (ah (ah (ah (ah (ah (aa (vB false) (aa (vB false) (af ?_)))))))))))))))))))))))
           obtain rfl:=ae f
           exact cu
         ·rintro ⟨⟩ _ K u l m
          refine aN _ l m ?_
          rcases aj a with⟨G,a⟩|⟨G,a⟩
          ·refine aB rfl G (ai (aa (vI 16) (af ?_)))
           obtain rfl:=ae a
           obtain rfl:=ae h
           obtain rfl:=ae g
           exact ay (aK [(vI 16)] ⟨rfl,trivial⟩)
          ·refine aA rfl G (ax (av (fC (bG n N) wz rfl (aa (vI ((c+1:Nat):Int)) (af ?_)))))
           obtain rfl:=ae a
           exact bf (c+1,I,()) ⟨h,aW n⟩ (ls_ _) rfl (aJ rfl)
  ·rintro q O K u l m
   subst O
   refine aN _ l m (ai (aa (vI 0) (af ?_)))
   obtain rfl:=ae g
   exact ay (aK [(vI 0)] ⟨rfl,trivial⟩)
theorem Br {f:(List Beat)} {g:ByteArray} {h:Bool} {r:(List Beat_)} (o:p9 f g h=some r) :
  FnM Tryz.prog 100 [(vL Beat.enc f),(vS g),(vB h)] [] (vL Beat_.enc r) []:=by
 refine FnM.of_wH ⟨Tryz.prog,41,[],[]⟩ rfl Tryz.func100 rfl rfl (lb_ rfl) (by kernel_rfl) ?_
 unfold p9 at o
 refine ai (aa .nil (af (ai (aa .nil (af (ak (ai (aa (vL Beat.enc f) (bL un84 rfl wz (aa (vI 0) (af (mR (λM => ?_)))))))))))))
 obtain ⟨P,w,o⟩:=bind_some o
 obtain ⟨I,w⟩:=aZ w
 refine iq (σ:=(List Beat_)) (N:=Nm) (λp=>(λ(e:List Beat_) (c:Nm)=>([(7,(gV c 2 e))]:SL_)) p.1 p.2) (λp=>(λ(e:List Beat_) (c:Nm)=>([(c,gB 2 Beat_.enc e)]:Hp)) p.1 p.2) (λ(j:Nat)=>(λp=>(λ(e:List Beat_) (c:Nm)=>([(1,(vS g)),(2,(vB h)),(7,(gV c 2 e)),(10,(vL Beat.enc f)),(11,(vI (f.length:Int))),(12,(vI (j:Int)))]:SL_)) p.1 p.2)) (λk x s=>pO g h k x s) P f (([]:List Beat_),M) w rfl (aJ rfl) ?_ ?_
 ·rintro ⟨j,A,e,c⟩ ⟨m,l⟩
  dsimp only at m l
  cases A with
  | nil =>
   obtain rfl:=ae m
   refine ai (aa (vB (decide ((j:Int)<(f.length:Int)))) (af ?_))
   refine ak (aA rfl (drop_nil l) (bg ?_))
   exact aY (e,c) rfl rfl (aJ rfl)
  | cons a A =>
   obtain ⟨R,q,m⟩:=bind_some m
   refine ai (aa (vB (decide ((j:Int)<(f.length:Int)))) (af ?_))
   refine ak (aB rfl (bz l) (ax ?_))
   unfold pO at q
   refine ak (aM (ai (dC Pe rfl rfl (bI l) rfl wz (bC Ou ag83 rfl (.d (.agg (Beat.enc a))) rfl wz (dP 0 (.inl rfl) z83 rfl wz (λO=>gy 0 il ft 1 Ou rfl rfl (Beat.v a) rfl wz (af (aM (ai (aG BK rfl 0 rfl wz (aF 0 1 il ft sz9 ag9 rfl rfl (vS a.Player) rfl wz (aa (vS g) (aa (vB (sNe a.Player g)) (aa (vB (sNe a.Player g)) (af ?_)))))))))))))))
   obtain ⟨B,b,q⟩:=bind_some q
   refine lD (β:=Nm) (λ(n:Nm)=>([(1,(vS g)),(2,(vB h)),(7,(gV n 2 B)),(10,(vL Beat.enc f)),(11,(vI (f.length:Int))),(12,(vI (j:Int)))]:SL_)) (λ(n:Nm)=>([(n,gB 2 Beat_.enc B),(O,some (.cells 3 (Beat.v a)))]:Hp)) (λ_=>True) ?_ ?_
   ·rcases aj b with⟨t,b⟩|⟨t,b⟩
    ·refine aB rfl t (ax ?_)
     obtain rfl:=ae b
     exact aY c trivial rfl (aJ rfl)
    ·refine aA rfl t (ai (aa (vB h) (aa (vB h) (af ?_))))
     rcases aj b with⟨u,b⟩|⟨u,b⟩
     ·refine aB rfl u (av (aa (gV c 2 e) (aG Ff rfl 1 rfl wz (aF 0 1 il ft sz3 ag3 rfl rfl (vI a.At) rfl wz (aG Fa rfl 2 rfl wz (aF 0 1 il ft sz3 ag3 rfl rfl (vI a.Clock) rfl wz (aI (.d (.agg (Beat_.enc (⟨a.At,a.Clock⟩:Beat_)))) wz (by kernel_rfl) (eD (([(⟨a.At,a.Clock⟩:Beat_)]:List Beat_).map Beat_.enc) Aj ez160 rfl rfl rfl rfl rfl wz ?_))))))))
      obtain ⟨G,K,b⟩:=bind_some b
      refine kY 0 il ft (i:=0) Nz Nz Ha z184 rfl (by decide) by184 (by decide) (λ_=>rfl) rfl rfl rfl K wz (λC=>aa (gV C 2 G) (af ?_))
      obtain rfl:=ae b
      exact aY C trivial rfl (aJ rfl)
     ·refine aA rfl u (av (aa (gV c 2 e) (aG Fa rfl 2 rfl wz (aF 0 1 il ft sz3 ag3 rfl rfl (vI a.Clock) rfl wz (aG Ff rfl 1 rfl wz (aF 0 1 il ft sz3 ag3 rfl rfl (vI a.At) rfl wz (aI (.d (.agg (Beat_.enc (⟨a.Clock,a.At⟩:Beat_)))) wz (by kernel_rfl) (eD (([(⟨a.Clock,a.At⟩:Beat_)]:List Beat_).map Beat_.enc) Aj ez160 rfl rfl rfl rfl rfl wz ?_))))))))
      obtain ⟨H,L,b⟩:=bind_some b
      refine kY 0 il ft (i:=0) Nz Nz Ha z184 rfl (by decide) by184 (by decide) (λ_=>rfl) rfl rfl rfl L wz (λE=>aa (gV E 2 H) (af ?_))
      obtain rfl:=ae b
      exact aY E trivial rfl (aJ rfl)
   ·rintro n _ Q F y z
    refine aN _ y z (av (fC (bG l I) wz rfl (aa (vI ((j+1:Nat):Int)) (af ?_))))
    obtain rfl:=ae q
    exact bf (j+1,A,B,n) ⟨m,aW l⟩ (ls_ _) rfl (aJ rfl)
 ·rintro ⟨e,c⟩ J Q F y z
  subst J
  refine aN _ y z (ai (aa (gV c 2 e) (aa (gV c 2 e) (af (ig 0 rfl (fT 6 0 rfl rfl (fT 7 0 rfl rfl (fT 40 0 rfl rfl ?_))))))))
  obtain rfl:=ae o
  exact ay (aK [(vL Beat_.enc e)] ⟨rfl,trivial⟩)
theorem Dy {f:(List Beat_)} {b:Int} {r:Int×Int} (a:oO f b=some r) :
  FnM Tryz.prog 99 [(vL Beat_.enc f),(vI b)] [] (.tup [(vI r.1),(vI r.2)]) []:=by
 refine FnM.of_wH ⟨Tryz.prog,108,[],[]⟩ rfl Tryz.func99 rfl rfl (lb_ rfl) (by kernel_rfl) ?_
 unfold oO at a
 refine ai (aa (vI 0) (aa (vI 0) (af (ak (ai (aa (vL Beat_.enc f) (bL RG rfl wz (aa (vB ((f.length:Int)==0)) (af ?_)))))))))
 rcases aj a with⟨B,a⟩|⟨B,a⟩
 ·refine aB rfl B (ai (aa (vI 0) (aa (vI 8) (af ?_))))
  obtain rfl:=ae a
  exact ay (aK [(vI 0),(vI 8)] ⟨rfl,⟨rfl,trivial⟩⟩)
 ·refine aA rfl B (ax (ai (aa (vI 0) (af (ak ?_)))))
  obtain ⟨Á,H,a⟩:=bind_some a
  obtain ⟨À,H⟩:=fe H
  refine iA (λ(c:Int)=>[(0,(vL Beat_.enc f)),(1,(vI b)),(6,(vI c))]) (λ(c:Int)=>[]) (λ(v:Nat)=>(λ(c:Int)=>[(0,(vL Beat_.enc f)),(1,(vI b)),(6,(vI c))])) (λs=>nE f b s) Á À 0 H rfl (aJ rfl) ?_ ?_
  ·rintro ⟨v,c⟩ n
   dsimp only at n
   cases v with
   | zero=>cases n
   | succ v =>
    obtain ⟨Ç,k,n⟩:=bind_some n
    unfold nE at k
    refine ak (ak ?_)
    obtain ⟨Å,m,k⟩:=bind_some k
    refine aP [(0,(vL Beat_.enc f)),(1,(vI b)),(6,(vI c)),(25,(vB Å))] [] ?_ ?_
    ·refine av (aa (vI c) (aa (vL Beat_.enc f) (bL RG rfl wz (aa (vB (decide (c<(f.length:Int)))) ?_))))
     rcases aj m with⟨w,m⟩|⟨w,m⟩
     ·refine aC rfl w wz (aI (vL Beat_.enc f) wa rfl (aI (vI c) wa rfl ?_))
      obtain ⟨u,Q,m⟩:=bind_some m
      refine dC Aj rfl rfl Q rfl wa (si uh rfl [.int .i64 u.f_from,.int .i64 u.f_to] rfl rfl wa (bC sz3 ag3 rfl (vI u.f_from) rfl wa (aI (vI b) wa rfl (aI (vB (decide (u.f_from<=b))) wa rfl (aa (vB (decide (u.f_from<=b))) (af ?_))))))
      obtain rfl:=ae m
      exact cu
     ·refine aC rfl w wz (ah (ah (ah (ah (ah (ah (ah (aa (vB false) (af ?_)))))))))
      obtain rfl:=ae m
      exact cu
    ·rintro ⟨⟩ _ L I q t
     refine aN _ q t ?_
     rcases aj k with⟨x,k⟩|⟨x,k⟩
     ·refine aB rfl x (ax (aM (av (aa (vI c) (aa (vI (w64 (c+1))) (aa (vI (w64 (c+1))) (af ?_)))))))
      obtain rfl:=ae k
      exact bf (v,(w64 (c+1))) n (ls_ _) rfl (aJ rfl)
     ·refine aA rfl x (bg ?_)
      obtain rfl:=ae k
      obtain rfl:=ae n
      exact aY (c) rfl rfl (aJ rfl)
  ·rintro c M L I q t
   subst M
   refine aN _ q t (ai (aa (vI 0) (af (ak (aM (ai (aa (vI c) (aa (vB (c==0)) (aa (vB (c==0)) (af ?_))))))))))
   rcases aj a with⟨y,a⟩|⟨y,a⟩
   ·refine aB rfl y (bD (aa (vL Beat_.enc f) ?_))
    obtain ⟨l,R,a⟩:=bind_some a
    refine dC Aj rfl rfl R rfl wz (si wF rfl [.int .i64 l.f_to] rfl rfl wz (bC sz3 ag3 rfl (vI l.f_to) rfl wz (aa (vL Beat_.enc f) ?_)))
    obtain ⟨h,T,a⟩:=bind_some a
    refine dC Aj rfl rfl T rfl wz (si uh rfl [.int .i64 h.f_from,.int .i64 h.f_to] rfl rfl wz (bC sz3 ag3 rfl (vI h.f_from) rfl wz (aa (vI b) (aa (vI (w64 (h.f_from-b))) (aa (vI (w64 (l.f_to-(w64 (h.f_from-b))))) (aa (vI (w64 (l.f_to-(w64 (h.f_from-b))))) (af (ak (ai (aa (vI (w64 (l.f_to-(w64 (h.f_from-b))))) ?_))))))))))
    obtain ⟨Â,N,a⟩:=bind_some a
    refine aD (iI N) rfl Mj rfl rfl rfl rfl wz (aa (vB (!Â)) (af ?_))
    rcases aj a with⟨z,a⟩|⟨z,a⟩
    ·refine aB rfl z (ai (aa (vI 0) (aa (vI 11) (af ?_))))
     obtain rfl:=ae a
     exact ay (aK [(vI 0),(vI 11)] ⟨rfl,⟨rfl,trivial⟩⟩)
    ·refine aA rfl z (ax (ai (aa (vI (w64 (l.f_to-(w64 (h.f_from-b))))) (aa (vI (w64 (l.f_to-(w64 (h.f_from-b))))) (aa (vI 0) (af ?_))))))
     obtain rfl:=ae a
     exact ay (aK [(vI (w64 (l.f_to-(w64 (h.f_from-b))))),(vI 0)] ⟨rfl,⟨rfl,trivial⟩⟩)
   ·refine aA rfl y (ai (aa (vI c) (aa (vL Beat_.enc f) (bL RG rfl wz (aa (vB (c==(f.length:Int))) (aa (vB (c==(f.length:Int))) (af ?_)))))))
    rcases aj a with⟨A,a⟩|⟨A,a⟩
    ·refine aB rfl A (bD (aa (vL Beat_.enc f) (aa (vI c) (aa (vI (w64 (c-1))) ?_))))
     obtain ⟨i,U,a⟩:=bind_some a
     refine dC Aj rfl rfl U rfl wz (si wF rfl [.int .i64 i.f_to] rfl rfl wz (bC sz3 ag3 rfl (vI i.f_to) rfl wz (aa (vI b) (aa (vI (w64 (i.f_to+b))) (aa (vL Beat_.enc f) (aa (vI c) (aa (vI (w64 (c-1))) ?_)))))))
     obtain ⟨j,W,a⟩:=bind_some a
     refine dC Aj rfl rfl W rfl wz (si uh rfl [.int .i64 j.f_from,.int .i64 j.f_to] rfl rfl wz (bC sz3 ag3 rfl (vI j.f_from) rfl wz (aa (vI (w64 ((w64 (i.f_to+b))-j.f_from))) (aa (vI (w64 ((w64 (i.f_to+b))-j.f_from))) (af (ak (ai (aa (vI (w64 ((w64 (i.f_to+b))-j.f_from))) ?_))))))))
     obtain ⟨Ã,O,a⟩:=bind_some a
     refine aD (iI O) rfl Mj rfl rfl rfl rfl wz (aa (vB (!Ã)) (af ?_))
     rcases aj a with⟨C,a⟩|⟨C,a⟩
     ·refine aB rfl C (ai (aa (vI 0) (aa (vI 11) (af (aN (H0:=([]:Hp)) ([(4,(vI 0)),(5,(vI 11))]:SL_) (by kernel_rfl) (ul (by kernel_rfl)) ?_)))))
      obtain rfl:=ae a
      exact ay (aK [(vI 0),(vI 11)] ⟨rfl,⟨rfl,trivial⟩⟩)
     ·refine aA rfl C (ax (ai (aa (vI (w64 ((w64 (i.f_to+b))-j.f_from))) (aa (vI (w64 ((w64 (i.f_to+b))-j.f_from))) (aa (vI 0) (af (aN (H0:=([]:Hp)) ([(4,(vI (w64 ((w64 (i.f_to+b))-j.f_from)))),(5,(vI 0))]:SL_) (by kernel_rfl) (ul (by kernel_rfl)) ?_)))))))
      obtain rfl:=ae a
      exact ay (aK [(vI (w64 ((w64 (i.f_to+b))-j.f_from))),(vI 0)] ⟨rfl,⟨rfl,trivial⟩⟩)
    ·refine aA rfl A (ak (bD (aa (vL Beat_.enc f) (aa (vI c) (aa (vI (w64 (c-1))) ?_)))))
     obtain ⟨e,X,a⟩:=bind_some a
     refine dC Aj rfl rfl X rfl wz (bC Ha ag184 rfl (.d (.agg (Beat_.enc e))) rfl wz (aa (vL Beat_.enc f) (aa (vI c) ?_)))
     obtain ⟨g,Y,a⟩:=bind_some a
     refine dC Aj rfl rfl Y rfl wz (bC Ha ag184 rfl (.d (.agg (Beat_.enc g))) rfl wz (dP 9 (.inr (by kernel_rfl)) z184 rfl wz (λJ=>dP 10 (.inr (by kernel_rfl)) z184 rfl wz (λK=>gy 11 (.inr (by kernel_rfl)) (λ_ _ ag=>⟨.inr (.inr (by kernel_rfl)),⟨.inr (.inr (by kernel_rfl)),trivial⟩⟩) 0 Ha rfl rfl [(vI e.f_from),(vI e.f_to)] rfl wz (gy 12 (.inr (by kernel_rfl)) (λ_ _ ag=>⟨.inr (.inr (by kernel_rfl)),⟨.inr (.inr (by kernel_rfl)),⟨.inr (.inr (by kernel_rfl)),trivial⟩⟩⟩) 1 Ha rfl rfl [(vI g.f_from),(vI g.f_to)] rfl wz (af (ak (ak ?_))))))))
     obtain ⟨Æ,p,a⟩:=bind_some a
     refine aP [(1,(vI b)),(8,(.ref J 0 0)),(9,(.ref K 0 0)),(50,(vB Æ))] [(J,some (.cells 2 [(vI e.f_from),(vI e.f_to)])),(K,some (.cells 2 [(vI g.f_from),(vI g.f_to)]))] ?_ ?_
     ·refine av (aG uh rfl 0 rfl wz (aF 0 1 il ft sz3 ag3 rfl rfl (vI g.f_from) rfl wz (aG uh rfl 0 rfl wz (aF 0 0 il ft sz3 ag3 rfl rfl (vI e.f_from) rfl wz (aa (vI (w64 (g.f_from-e.f_from))) (aa (vB (decide ((w64 (g.f_from-e.f_from))>2592000000))) ?_))))))
      rcases aj p with⟨E,p⟩|⟨E,p⟩
      ·refine aC rfl E wz (ah (ah (ah (ah (ah (ah (aa (vB true) (af ?_))))))))
       obtain rfl:=ae p
       exact cu
      ·refine aC rfl E wz (aG wF rfl 1 rfl wa (aF 0 1 il ft sz3 ag3 rfl rfl (vI g.f_to) rfl wa (aG wF rfl 1 rfl wa (aF 0 0 il ft sz3 ag3 rfl rfl (vI e.f_to) rfl wa (aI (vI (w64 (g.f_to-e.f_to))) wa rfl (aI (vB (decide ((w64 (g.f_to-e.f_to))>2592000000))) wa rfl (aa (vB (decide ((w64 (g.f_to-e.f_to))>2592000000))) (af ?_))))))))
       obtain rfl:=ae p
       exact cu
     ·rintro ⟨⟩ _ L I q t
      refine aN _ q t ?_
      rcases aj a with⟨F,a⟩|⟨F,a⟩
      ·refine aB rfl F (ai (aa (vI 0) (aa (vI 2) (af ?_))))
       obtain rfl:=ae a
       exact ay (aK [(vI 0),(vI 2)] ⟨rfl,⟨rfl,trivial⟩⟩)
      ·refine aA rfl F (ax (bD (aG wF rfl 1 rfl wz (aF 1 0 (.inr (by kernel_rfl)) (λ_ _ ag=>trivial) sz3 ag3 rfl rfl (vI e.f_to) rfl wz (aa (vI b) (aG uh rfl 0 rfl wz (aF 4 0 (.inr (by kernel_rfl)) (λ_ _ ag=>⟨.inl ⟨rfl,rfl⟩,trivial⟩) sz3 ag3 rfl rfl (vI e.f_from) rfl wz (aa (vI (w64 (b-e.f_from))) (aG wF rfl 1 rfl wz (aF 7 1 (.inr (by kernel_rfl)) (λ_ _ ag=>⟨.inl ⟨rfl,rfl⟩,⟨.inl ⟨rfl,rfl⟩,trivial⟩⟩) sz3 ag3 rfl rfl (vI g.f_to) rfl wz (aG wF rfl 1 rfl wz (aF 9 0 (.inr (by kernel_rfl)) (λ_ _ ag=>⟨.inl ⟨rfl,rfl⟩,⟨.inl ⟨rfl,rfl⟩,⟨.inl ⟨rfl,rfl⟩,trivial⟩⟩⟩) sz3 ag3 rfl rfl (vI e.f_to) rfl wz (aa (vI (w64 (g.f_to-e.f_to))) (aa (vI (w64 ((w64 (b-e.f_from))*(w64 (g.f_to-e.f_to))))) (aG uh rfl 0 rfl wz (aF 13 1 (.inr (by kernel_rfl)) (λ_ _ ag=>⟨.inl ⟨rfl,rfl⟩,⟨.inl ⟨rfl,rfl⟩,⟨.inl ⟨rfl,rfl⟩,⟨.inl ⟨rfl,rfl⟩,trivial⟩⟩⟩⟩) sz3 ag3 rfl rfl (vI g.f_from) rfl wz (aG uh rfl 0 rfl wz (aF 15 0 (.inr (by kernel_rfl)) (λ_ _ ag=>⟨.inl ⟨rfl,rfl⟩,⟨.inl ⟨rfl,rfl⟩,⟨.inl ⟨rfl,rfl⟩,⟨.inl ⟨rfl,rfl⟩,⟨.inl ⟨rfl,rfl⟩,trivial⟩⟩⟩⟩⟩) sz3 ag3 rfl rfl (vI e.f_from) rfl wz (aa (vI (w64 (g.f_from-e.f_from))) ?_)))))))))))))))))))
       obtain ⟨o,Z,a⟩:=bind_some a
       refine QG rfl rfl Z wz (aa (vI (w64 (e.f_to+o))) (aa (vI (w64 (e.f_to+o))) (af (ak (ai (aa (vI (w64 (e.f_to+o))) ?_))))))
       obtain ⟨Ä,P,a⟩:=bind_some a
       refine aD (iI P) rfl Mj rfl rfl rfl rfl wz (aa (vB (!Ä)) (af ?_))
       rcases aj a with⟨G,a⟩|⟨G,a⟩
       ·refine aB rfl G (ai (aa (vI 0) (aa (vI 11) (af ?_))))
        obtain rfl:=ae a
        exact ay (aK [(vI 0),(vI 11)] ⟨rfl,⟨rfl,trivial⟩⟩)
       ·refine aA rfl G (ax (ai (aa (vI (w64 (e.f_to+o))) (aa (vI (w64 (e.f_to+o))) (aa (vI 0) (af ?_))))))
        obtain rfl:=ae a
        exact ay (aK [(vI (w64 (e.f_to+o))),(vI 0)] ⟨rfl,⟨rfl,trivial⟩⟩)
theorem EQ {d:(List Beat)} {f:ByteArray} {e:Int} {g:Bool} {r:Int×Int} (a:qm d f e g=some r) :
  FnM Tryz.prog 59 [(vL Beat.enc d),(vS f),(vI e),(vB g)] [] (.tup [(vI r.1),(vI r.2)]) []:=by
 refine FnM.of_wH ⟨Tryz.prog,30,[],[]⟩ rfl Tryz.func59 rfl rfl (lb_ rfl) (by kernel_rfl) ?_
 unfold qm at a
 refine ai (aa (vI 0) (aa (vI 0) (af (ak (ai (aa (vL Beat.enc d) ?_))))))
 obtain ⟨c,n,a⟩:=bind_some a
 refine aD (yM n) rfl hb98 rfl rfl rfl rfl wz (aa (vI c) (af (ai (aa (vI c) (aa (vB (c != 0)) (af ?_))))))
 rcases aj a with⟨j,a⟩|⟨j,a⟩
 ·refine aB rfl j (ai (aa (vI c) (aa (vI 0) (aa (vI c) (af ?_)))))
  obtain rfl:=ae a
  exact ay (aK [(vI 0),(vI c)] ⟨rfl,⟨rfl,trivial⟩⟩)
 ·refine aA rfl j (ax (ak (ai (aa (vS f) ?_))))
  obtain ⟨q,o,a⟩:=bind_some a
  refine aD (fU o) rfl Fw rfl rfl rfl rfl wz (aa (vB (!q)) (af ?_))
  rcases aj a with⟨h,a⟩|⟨h,a⟩
  ·refine aB rfl h (ai (aa (vI 0) (aa (vI 5) (af ?_))))
   obtain rfl:=ae a
   exact ay (aK [(vI 0),(vI 5)] ⟨rfl,⟨rfl,trivial⟩⟩)
  ·refine aA rfl h (ax (ak (ai (aa (vI e) ?_))))
   obtain ⟨p,k,a⟩:=bind_some a
   refine aD (iI k) rfl Mj rfl rfl rfl rfl wz (aa (vB (!p)) (af ?_))
   rcases aj a with⟨i,a⟩|⟨i,a⟩
   ·refine aB rfl i (ai (aa (vI 0) (aa (vI 1) (af ?_))))
    obtain rfl:=ae a
    exact ay (aK [(vI 0),(vI 1)] ⟨rfl,⟨rfl,trivial⟩⟩)
   ·refine aA rfl i (ax (ai (aa (vL Beat.enc d) (aa (vS f) (aa (vB g) ?_)))))
    obtain ⟨s,l,a⟩:=bind_some a
    refine aD (Br l) rfl hb100 rfl rfl rfl rfl wz (aa (vI e) ?_)
    obtain ⟨b,m,a⟩:=bind_some a
    refine aD (Dy m) rfl hb99 rfl rfl rfl rfl wz (aa (vI b.1) (aa (vI b.2) (aa (vI b.1) (aa (vI b.2) (af ?_)))))
    obtain rfl:=ae a
    exact ay (aK [(vI b.1),(vI b.2)] ⟨rfl,⟨rfl,trivial⟩⟩)
theorem Es {d:(List Beat)} {e:ByteArray} {c:Int} {r:Int×Int} (b:qd d e c=some r) :
  FnM Tryz.prog 31 [(vL Beat.enc d),(vS e),(vI c)] [] (.tup [(vI r.1),(vI r.2)]) []:=by
 refine FnM.of_wH ⟨Tryz.prog,14,[],[]⟩ rfl Tryz.func31 rfl rfl (lb_ rfl) (by kernel_rfl) ?_
 unfold qd at b
 refine ai (aa (vI 0) (aa (vI 0) (af (ai (aa (vL Beat.enc d) (aa (vS e) (aa (vI c) ?_)))))))
 obtain ⟨a,f,b⟩:=bind_some b
 refine aD (EQ f) rfl hb59 rfl rfl rfl rfl wz (aa (vI a.1) (aa (vI a.2) (aa (vI a.1) (aa (vI a.2) (af ?_)))))
 obtain rfl:=ae b
 exact ay (aK [(vI a.1),(vI a.2)] ⟨rfl,⟨rfl,trivial⟩⟩)
theorem yT {b:(List Post)} {r:Int} (e:jW b=some r) :
  FnM Tryz.prog 101 [(vL Post.enc b)] [] (vI r) []:=by
 refine FnM.of_wH ⟨Tryz.prog,44,[],[]⟩ rfl Tryz.func101 rfl rfl (lb_ rfl) (by kernel_rfl) ?_
 unfold jW at e
 refine ai (aa (vI 0) (af (ak (ai (aa (vL Post.enc b) (bL un120 rfl wz (aa (vB (decide ((b.length:Int)>500))) (af ?_))))))))
 rcases aj e with⟨q,e⟩|⟨q,e⟩
 ·refine aB rfl q (ai (aa (vI 2) (af ?_)))
  obtain rfl:=ae e
  exact ay (aK [(vI 2)] ⟨rfl,trivial⟩)
 ·refine aA rfl q (ax (ak (ai (aa (vL Post.enc b) (bL un120 rfl wz (aa (vI 0) (af ?_)))))))
  obtain ⟨N,z,e⟩:=bind_some e
  obtain ⟨H,z⟩:=aZ z
  refine dh (λ(o:Unit)=>[]) (λ(o:Unit)=>[]) (λ(c:Nat)=>(λ(o:Unit)=>[(0,(vL Post.enc b)),(8,(vL Post.enc b)),(9,(vI (b.length:Int))),(10,(vI (c:Int)))])) (λk x s=>iQ b k x s) N b () z rfl (aJ rfl) ?_ ?_
  ·rintro ⟨c,A,o⟩ ⟨h,l⟩
   dsimp only at h l
   cases A with
   | nil =>
    obtain rfl:=ae h
    refine ai (aa (vB (decide ((c:Int)<(b.length:Int)))) (af ?_))
    refine ak (aA rfl (drop_nil l) (bg ?_))
    exact aY (o) rfl rfl (aJ rfl)
   | cons f A =>
    obtain ⟨Q,a,h⟩:=bind_some h
    refine ai (aa (vB (decide ((c:Int)<(b.length:Int)))) (af ?_))
    refine ak (aB rfl (bz l) (ax ?_))
    unfold iQ at a
    refine ak (aM (ai (aa (vI (c:Int)) (dC Qh rfl rfl (bI l) rfl wz (bC sz88 ag88 rfl (.d (.agg (Post.enc f))) rfl wz (dP 0 (.inl rfl) z88 rfl wz (λB=>aa (vI (c:Int)) (gy 0 il ft 0 sz88 rfl rfl (Post.v f) rfl wz (af (aM (ai (aG Mi rfl 0 rfl wz (aF 0 0 il ft sz9 ag9 rfl rfl (vS f.Player) rfl wz ?_)))))))))))))
    obtain ⟨E,J,a⟩:=bind_some a
    refine aD (fU J) rfl Fw rfl rfl rfl rfl wz (aa (vB (!E)) (aa (vB (!E)) (af ?_)))
    rcases aj a with⟨p,a⟩|⟨p,a⟩
    ·refine aB rfl p (ai (aa (vI 5) (af ?_)))
     obtain rfl:=ae a
     obtain rfl:=ae h
     obtain rfl:=ae e
     exact ay (aK [(vI 5)] ⟨rfl,trivial⟩)
    ·refine aA rfl p (ak ?_)
     obtain ⟨O,g,a⟩:=bind_some a
     refine aP [(0,(vL Post.enc b)),(3,(vI (c:Int))),(4,(.ref B 0 0)),(8,(vL Post.enc b)),(9,(vI (b.length:Int))),(10,(vI (c:Int))),(20,(vB O))] [(B,some (.cells 3 (Post.v f)))] ?_ ?_
     ·refine av (aG L9 rfl 1 rfl wz (aF 0 0 il ft sz3 ag3 rfl rfl (vI f.X) rfl wz ?_))
      obtain ⟨R,K,g⟩:=bind_some g
      refine aD (bv K) rfl rU rfl rfl rfl rfl wz ?_
      rcases aj g with⟨t,g⟩|⟨t,g⟩
      ·refine aC rfl t wz (ah (ah (ah (aa (vB true) (aa (vB true) (af ?_))))))
       obtain rfl:=ae g
       exact cu
      ·refine aC rfl t wz (aG MW rfl 2 rfl wa (aF 0 0 il ft sz3 ag3 rfl rfl (vI f.Y) rfl wa ?_))
       obtain ⟨F,L,g⟩:=bind_some g
       refine aD (bv L) rfl rU rfl rfl rfl rfl wa (aa (vB F) (aa (vB F) (af ?_)))
       obtain rfl:=ae g
       exact cu
     ·rintro ⟨⟩ _ G C m n
      refine aN _ m n ?_
      rcases aj a with⟨u,a⟩|⟨u,a⟩
      ·refine aB rfl u (ai (aa (vI 1) (af ?_)))
       obtain rfl:=ae a
       obtain rfl:=ae h
       obtain rfl:=ae e
       exact ay (aK [(vI 1)] ⟨rfl,trivial⟩)
      ·refine aA rfl u (ak ?_)
       obtain ⟨P,i,a⟩:=bind_some a
       refine aP [(0,(vL Post.enc b)),(8,(vL Post.enc b)),(9,(vI (b.length:Int))),(10,(vI (c:Int))),(29,(vB P))] [(B,some (.cells 3 (Post.v f)))] ?_ ?_
       ·refine bD (aa (vI (c:Int)) (aa (vB (decide ((c:Int)>0))) ?_))
        rcases aj i with⟨w,i⟩|⟨w,i⟩
        ·refine aC rfl w wz (aG Mi rfl 0 rfl wa (aF 4 0 (.inr (by kernel_rfl)) (λ_ _ ag=>trivial) sz9 ag9 rfl rfl (vS f.Player) rfl wa (aI (vL Post.enc b) wa rfl (aI (vI (c:Int)) wa rfl (aI (vI (w64 ((c:Int)-1))) wa rfl ?_)))))
         obtain ⟨j,M,i⟩:=bind_some i
         refine dC Qh rfl rfl M rfl wa (si Mi rfl [.str j.Player,.int .i64 j.X,.int .i64 j.Y] rfl rfl wa (bC sz9 ag9 rfl (vS j.Player) rfl wa (aI (vB (sLe f.Player j.Player)) wa rfl (aa (vB (sLe f.Player j.Player)) (aa (vB (sLe f.Player j.Player)) (af ?_))))))
         obtain rfl:=ae i
         exact cu
        ·refine aC rfl w wz (ah (ah (ah (ah (ah (ah (ah (ah (ah (aa (vB false) (aa (vB false) (af ?_))))))))))))
         obtain rfl:=ae i
         exact cu
       ·rintro ⟨⟩ _ G C m n
        refine aN _ m n ?_
        rcases aj a with⟨y,a⟩|⟨y,a⟩
        ·refine aB rfl y (ai (aa (vI 7) (af ?_)))
         obtain rfl:=ae a
         obtain rfl:=ae h
         obtain rfl:=ae e
         exact ay (aK [(vI 7)] ⟨rfl,trivial⟩)
        ·refine aA rfl y (ax (av (fC (bG l H) wz rfl (aa (vI ((c+1:Nat):Int)) (af ?_)))))
         obtain rfl:=ae a
         exact bf (c+1,A,()) ⟨h,aW l⟩ (ls_ _) rfl (aJ rfl)
  ·rintro o I G C m n
   subst I
   refine aN _ m n (ai (aa (vI 0) (af ?_)))
   obtain rfl:=ae e
   exact ay (aK [(vI 0)] ⟨rfl,trivial⟩)
theorem zD {d:(List Alert)} {e:(List Post)} {r:Int} (a:kI d e=some r) :
  FnM Tryz.prog 60 [(vL Alert.enc d),(vL Post.enc e)] [] (vI r) []:=by
 refine FnM.of_wH ⟨Tryz.prog,13,[],[]⟩ rfl Tryz.func60 rfl rfl (lb_ rfl) (by kernel_rfl) ?_
 unfold kI at a
 refine ai (aa (vI 0) (af (ak (ai (aa (vL Alert.enc d) ?_)))))
 obtain ⟨b,g,a⟩:=bind_some a
 refine aD (lT g) rfl hb18 rfl rfl rfl rfl wz (aa (vI b) (af (ai (aa (vI b) (aa (vB (b != 0)) (af ?_))))))
 rcases aj a with⟨c,a⟩|⟨c,a⟩
 ·refine aB rfl c (ai (aa (vI b) (aa (vI b) (af ?_))))
  obtain rfl:=ae a
  exact ay (aK [(vI b)] ⟨rfl,trivial⟩)
 ·refine aA rfl c (ax (ai (aa (vL Post.enc e) ?_)))
  obtain ⟨f,h,a⟩:=bind_some a
  refine aD (yT h) rfl hb101 rfl rfl rfl rfl wz (aa (vI f) (af ?_))
  obtain rfl:=ae a
  exact ay (aK [(vI f)] ⟨rfl,trivial⟩)
theorem zO {a:Rect} {b:Post} {r:Bool} (e:qK a b=some r) :
  FnM Tryz.prog 103 [(.d (.agg (Rect.enc a))),(.ref (au 0) 0 0)] [(.cells 3 (Post.v b))] (vB r) [some (.cells 3 (Post.v b))]:=by
 refine FnM.of_wH ⟨Tryz.prog,36,[],[]⟩ rfl Tryz.func103 rfl rfl (lb_ rfl) (by kernel_rfl) ?_
 unfold qK at e
 refine ai (iW 0 (.inl rfl) (Rect.v a) rfl rfl wz (λl=>aa (vB false) (af (ak ?_))))
 obtain ⟨i,c,e⟩:=bind_some e
 refine aP [(3,(vB i))] [((au 0),some (.cells 3 (Post.v b))),(l,some (.cells 4 (Rect.v a)))] ?_ ?_
 ·refine av (aG xw rfl 0 rfl wz (aF 0 1 il ft sz3 ag3 rfl rfl (vI a.X) rfl wz (aG L9 rfl 1 rfl wz (aF 0 0 il ft sz3 ag3 rfl rfl (vI b.X) rfl wz (aa (vB (decide (a.X<=b.X))) ?_)))))
  rcases aj c with⟨f,c⟩|⟨f,c⟩
  ·refine aC rfl f wz (aG L9 rfl 1 rfl wa (aF 0 0 il ft sz3 ag3 rfl rfl (vI b.X) rfl wa (aG xw rfl 0 rfl wa (aF 0 1 il ft sz3 ag3 rfl rfl (vI a.X) rfl wa (aG BH rfl 2 rfl wa (aF 0 1 il ft sz3 ag3 rfl rfl (vI a.W) rfl wa (aI (vI (w64 (a.X+a.W))) wa rfl (aI (vB (decide (b.X<(w64 (a.X+a.W))))) wa rfl (aa (vB (decide (b.X<(w64 (a.X+a.W))))) ?_)))))))))
   rcases aj c with⟨g,c⟩|⟨g,c⟩
   ·refine aC rfl g wz (aG uu rfl 1 rfl wa (aF 0 1 il ft sz3 ag3 rfl rfl (vI a.Y) rfl wa (aG MW rfl 2 rfl wa (aF 0 0 il ft sz3 ag3 rfl rfl (vI b.Y) rfl wa (aI (vB (decide (a.Y<=b.Y))) wa rfl (aa (vB (decide (a.Y<=b.Y))) ?_))))))
    rcases aj c with⟨h,c⟩|⟨h,c⟩
    ·refine aC rfl h wz (aG MW rfl 2 rfl wa (aF 0 0 il ft sz3 ag3 rfl rfl (vI b.Y) rfl wa (aG uu rfl 1 rfl wa (aF 0 1 il ft sz3 ag3 rfl rfl (vI a.Y) rfl wa (aG zx rfl 3 rfl wa (aF 0 1 il ft sz3 ag3 rfl rfl (vI a.H) rfl wa (aI (vI (w64 (a.Y+a.H))) wa rfl (aI (vB (decide (b.Y<(w64 (a.Y+a.H))))) wa rfl (aa (vB (decide (b.Y<(w64 (a.Y+a.H))))) (aa (vB (decide (b.Y<(w64 (a.Y+a.H))))) (af ?_)))))))))))
     obtain rfl:=ae c
     exact cu
    ·refine aC rfl h wz (ah (ah (ah (ah (ah (ah (ah (ah (aa (vB false) (aa (vB false) (af ?_)))))))))))
     obtain rfl:=ae c
     exact cu
   ·refine aC rfl g wz (ah (ah (ah (ah (ah (aa (vB false) (aa (vB false) (ah (ah (ah (ah (ah (ah (ah (ah (aa (vB false) (aa (vB false) (af ?_))))))))))))))))))
    obtain rfl:=ae c
    exact cu
  ·refine aC rfl f wz (ah (ah (ah (ah (ah (ah (ah (ah (aa (vB false) (aa (vB false) (ah (ah (ah (ah (ah (aa (vB false) (aa (vB false) (ah (ah (ah (ah (ah (ah ?_)))))))))))))))))))))))
   refine ah (ah (aa (vB false) (aa (vB false) (af ?_))))
   obtain rfl:=ae c
   exact cu
 ·rintro ⟨⟩ _ n m j k
  refine aN _ j k ?_
  obtain rfl:=ae e
  exact ay (Ad (.inr rfl) [(vB i)] _ [0] [au 0] ⟨rfl,trivial⟩ (.cons (jl rfl rfl) (.nil)) (by kernel_rfl) ⟨(by kernel_rfl),trivial⟩ (by decide) (by kernel_rfl))
theorem mP {c:(List Rect)} {j:Rect->Option Bool} {r:Int} {gid:FuncId} {caps:List V} {Sin:List Box} (hfn:∀x0 r,j x0=some r->FnM Tryz.prog gid ([(.d (.agg (Rect.enc x0)))]++caps) Sin (vB r) (Sin.map some)) (hbF:aH Tryz.prog gid=true) (hcapF:caps.flatMap frz=[]/\caps.map co0=caps) (hokF:okL Sin.length caps=true) (hsF:∀b∈Sin,b.ok Sin.length=true) (hmF:∀b∈Sin,b.mut=true) (h:fM c j=some r) :
  FnM Tryz.prog 131 [(vL Rect.enc c),(.fn gid caps)] Sin (vI r) (Sin.map some):=by
 refine FnM.of_wH ⟨Tryz.prog,19,[],[]⟩ rfl Tryz.func131 rfl rfl (lb_ rfl) (by kernel_rfl) ?_
 unfold fM at h
 refine ai (aa (vI 0) (af (ak (ai (aa (vL Rect.enc c) (bL yX rfl wz (aa (vI 0) (af ?_))))))))
 obtain ⟨v,m,h⟩:=bind_some h
 obtain ⟨o,m⟩:=aZ m
 refine dh (λ(i:Unit)=>[]) (λ(i:Unit)=>(kM 0 Sin)) (λ(a:Nat)=>(λ(i:Unit)=>[(0,(vL Rect.enc c)),(1,(.fn gid caps)),(7,(vI (c.length:Int))),(8,(vI (a:Int)))])) (λk x s=>eH j k x s) v c () m rfl (FR _) ?_ ?_
 ·rintro ⟨a,n,i⟩ ⟨g,f⟩
  dsimp only at g f
  cases n with
  | nil =>
   obtain rfl:=ae g
   refine ai (aa (vB (decide ((a:Int)<(c.length:Int)))) (af ?_))
   refine ak (aA rfl (drop_nil f) (bg ?_))
   exact aY (i) rfl rfl (FR _)
  | cons w n =>
   obtain ⟨z,e,g⟩:=bind_some g
   refine ai (aa (vB (decide ((a:Int)<(c.length:Int)))) (af ?_))
   refine ak (aB rfl (bz f) (ax ?_))
   unfold eH at e
   refine ak (aM (ai (aa (vI (a:Int)) (aa (vI (a:Int)) (af (ai (aa (.fn gid caps) (aa (vL Rect.enc c) (aa (vI (a:Int)) (dC BI rfl rfl (bI f) rfl wz (bC qw EJ rfl (.d (.agg (Rect.enc w))) rfl wz ?_)))))))))))
   obtain ⟨A,u,e⟩:=bind_some e
   refine Nu (hfn _ _ u) rfl hbF rfl rfl hcapF hokF hsF hmF rfl wz rfl (af ?_)
   rcases aj e with⟨l,e⟩|⟨l,e⟩
   ·refine aB rfl l (ai (aa (vI (a:Int)) (aa (vI (a:Int)) (af ?_))))
    obtain rfl:=ae e
    obtain rfl:=ae g
    obtain rfl:=ae h
    exact ay (finS hsF (.inr rfl) [(vI (a:Int))] ⟨rfl,trivial⟩ rfl rfl rfl)
   ·refine aA rfl l (ax (av (fC (bG f o) wz rfl (aa (vI ((a+1:Nat):Int)) (af ?_)))))
    obtain rfl:=ae e
    exact bf (a+1,n,()) ⟨g,aW f⟩ (ls_ _) rfl (FR _)
 ·rintro i p B y q t
  subst p
  refine aN _ q t (ai (aa (vI (-1)) (af ?_)))
  obtain rfl:=ae h
  exact ay (finS hsF (.inr rfl) [(vI (-1))] ⟨rfl,trivial⟩ rfl rfl rfl)
theorem kX {e:(List Rect)} {f:Rect->Option Bool} {r:Bool} {gid:FuncId} {caps:List V} {Sin:List Box} (hfn:∀x0 r,f x0=some r->FnM Tryz.prog gid ([(.d (.agg (Rect.enc x0)))]++caps) Sin (vB r) (Sin.map some)) (hbF:aH Tryz.prog gid=true) (hcapF:caps.flatMap frz=[]/\caps.map co0=caps) (hokF:okL Sin.length caps=true) (hsF:∀b∈Sin,b.ok Sin.length=true) (hmF:∀b∈Sin,b.mut=true) (a:eU e f=some r) :
  FnM Tryz.prog 102 [(vL Rect.enc e),(.fn gid caps)] Sin (vB r) (Sin.map some):=by
 refine FnM.of_wH ⟨Tryz.prog,9,[],[]⟩ rfl Tryz.func102 rfl rfl (lb_ rfl) (by kernel_rfl) ?_
 unfold eU at a
 refine ai (aa (vB false) (af (ai (aa (vL Rect.enc e) (aa (.fn gid caps) ?_)))))
 obtain ⟨c,g,a⟩:=bind_some a
 refine Nu (mP (gid:=gid) (caps:=caps) (Sin:=Sin) hfn hbF hcapF hokF hsF hmF g) rfl hb131 rfl rfl ⟨rfl,rfl⟩ (by simp [okL,okV,hokF]) hsF hmF rfl wz rfl (aa (vB (decide (c>=0))) (aa (vB (decide (c>=0))) (af ?_)))
 obtain rfl:=ae a
 exact ay (finS hsF (.inr rfl) [(vB (decide (c>=0)))] ⟨rfl,trivial⟩ rfl rfl rfl)
theorem Co {a:Alert} {b:Post} {r:Bool} (c:pY a b=some r) :
  FnM Tryz.prog 61 [(.d (.agg (Alert.enc a))),(.d (.agg (Post.enc b)))] [] (vB r) []:=by
 refine FnM.of_wH ⟨Tryz.prog,9,[],[]⟩ rfl Tryz.func61 rfl rfl (lb_ rfl) (by kernel_rfl) ?_
 unfold pY at c
 refine ai (iW 0 (.inl rfl) (Alert.v a) rfl rfl wz (λh=>iW 0 (.inl rfl) (Post.v b) rfl rfl wz (λf=>aa (vB false) (af (ai (aG rZ rfl 7 rfl wz (aF 0 0 il ft BZ FJ rfl rfl (vL Rect.enc a.Areas) rfl wz (aa (.fn 103 [(.ref f 0 0)]) ?_))))))))
 obtain ⟨e,g,c⟩:=bind_some c
 refine dQ 0 [1] il ft (kX (gid:=103) (caps:=[.ref (au 0) 0 0]) (Sin:=[(.cells 3 (Post.v b))]) (λ_ _ h_=>zO h_) hb103 ⟨rfl,rfl⟩ (by kernel_rfl) (all_ok (by kernel_rfl)) (all_mut (by kernel_rfl)) g) rfl hb102 rfl (by kernel_rfl) (by kernel_rfl) (by kernel_rfl) (by kernel_rfl) (by kernel_rfl) (by kernel_rfl) (by kernel_rfl) (by decide) (by kernel_rfl) wz (vB e) (by kernel_rfl) ([(h,some (.cells 9 (Alert.v a))),(f,some (.cells 3 (Post.v b)))]:Hp) (by kernel_rfl) (aa (vB e) (af ?_))
 obtain rfl:=ae c
 exact ay (aK [(vB e)] ⟨rfl,trivial⟩)
theorem BG {b:Alert} {c:Post} {r:Bool×Int} (a:ny b c=some r) :
  FnM Tryz.prog 32 [(.d (.agg (Alert.enc b))),(.d (.agg (Post.enc c)))] [] (.tup [(vB r.1),(vI r.2)]) []:=by
 refine FnM.of_wH ⟨Tryz.prog,18,[],[]⟩ rfl Tryz.func32 rfl rfl (lb_ rfl) (by kernel_rfl) ?_
 unfold ny at a
 refine ai (iW 0 (.inl rfl) (Alert.v b) rfl rfl wz (λj=>iW 0 (.inl rfl) (Post.v c) rfl rfl wz (λk=>aa (vB false) (aa (vI 0) (af (ak (ai (aF 0 0 il ft mG tH rfl rfl (.d (.agg (Alert.enc b))) rfl wz (eD (([b]:List Alert).map Alert.enc) tF Qc rfl rfl rfl rfl rfl wz (aF 0 1 il ft sz88 ag88 rfl rfl (.d (.agg (Post.enc c))) rfl wz (eD (([c]:List Post).map Post.enc) Qh ez120 rfl rfl rfl rfl rfl wz ?_)))))))))))
 obtain ⟨e,h,a⟩:=bind_some a
 refine aD (zD h) rfl hb60 rfl rfl rfl rfl wz (aa (vI e) (af (ai (aa (vI e) (aa (vB (e != 0)) (af ?_))))))
 rcases aj a with⟨f,a⟩|⟨f,a⟩
 ·refine aB rfl f (ai (aa (vI e) (aa (vB false) (aa (vI e) (af ?_)))))
  obtain rfl:=ae a
  exact ay (aK [(vB false),(vI e)] ⟨rfl,⟨rfl,trivial⟩⟩)
 ·refine aA rfl f (ax (ai (aF 0 0 il ft mG tH rfl rfl (.d (.agg (Alert.enc b))) rfl wz (aF 0 1 il ft sz88 ag88 rfl rfl (.d (.agg (Post.enc c))) rfl wz ?_))))
  obtain ⟨g,i,a⟩:=bind_some a
  refine aD (Co i) rfl hb61 rfl rfl rfl rfl wz (aa (vB g) (aa (vI 0) (af ?_)))
  obtain rfl:=ae a
  exact ay (aK [(vB g),(vI 0)] ⟨rfl,⟨rfl,trivial⟩⟩)
theorem Jc {a:(List Int)} {r:Int} (g:yx a=some r) :
  FnM Tryz.prog 33 [(vL eI a)] [] (vI r) []:=by
 refine FnM.of_wH ⟨Tryz.prog,15,[],[]⟩ rfl Tryz.func33 rfl rfl (lb_ rfl) (by kernel_rfl) ?_
 unfold yx at g
 refine ai (aa (vI 0) (af (ak (ai (aa (vL eI a) (bL un122 rfl wz (aa (vI 0) (af ?_))))))))
 obtain ⟨q,j,g⟩:=bind_some g
 obtain ⟨m,j⟩:=aZ j
 refine dh (λ(h:Unit)=>[]) (λ(h:Unit)=>[]) (λ(f:Nat)=>(λ(h:Unit)=>[(5,(vL eI a)),(6,(vI (a.length:Int))),(7,(vI (f:Int)))])) (λk x s=>vW k x s) q a () j rfl (aJ rfl) ?_ ?_
 ·rintro ⟨f,l,h⟩ ⟨d,c⟩
  dsimp only at d c
  cases l with
  | nil =>
   obtain rfl:=ae d
   refine ai (aa (vB (decide ((f:Int)<(a.length:Int)))) (af ?_))
   refine ak (aA rfl (drop_nil c) (bg ?_))
   exact aY (h) rfl rfl (aJ rfl)
  | cons b l =>
   obtain ⟨u,e,d⟩:=bind_some d
   refine ai (aa (vB (decide ((f:Int)<(a.length:Int)))) (af ?_))
   refine ak (aB rfl (bz c) (ax ?_))
   unfold vW at e
   refine ak (aM (ai (dC es122 rfl rfl (bI c) rfl wz (bC sz28 ag28 rfl (vI b) rfl wz (aa (vI b) (af (ai (aa (vI b) (aa (vB (b != 0)) (af ?_))))))))))
   rcases aj e with⟨i,e⟩|⟨i,e⟩
   ·refine aB rfl i (ai (aa (vI b) (aa (vI b) (af ?_))))
    obtain rfl:=ae e
    obtain rfl:=ae d
    obtain rfl:=ae g
    exact ay (aK [(vI b)] ⟨rfl,trivial⟩)
   ·refine aA rfl i (ax (av (fC (bG c m) wz rfl (aa (vI ((f+1:Nat):Int)) (af ?_)))))
    obtain rfl:=ae e
    exact bf (f+1,l,()) ⟨d,aW c⟩ (ls_ _) rfl (aJ rfl)
 ·rintro h n v t o p
  subst n
  refine aN _ o p (ai (aa (vI 0) (af ?_)))
  obtain rfl:=ae g
  exact ay (aK [(vI 0)] ⟨rfl,trivial⟩)
end Go.Proofs.YtljhfffghjclfabGreatDoor.Law

