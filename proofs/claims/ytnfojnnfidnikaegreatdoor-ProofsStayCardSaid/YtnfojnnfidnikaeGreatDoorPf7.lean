/-
 The machine computes these plain functions (written by a program of ours).
-/
import Derived.Test.YtnfojnnfidnikaeGreatDoorFacts
import Derived.Test.YtnfojnnfidnikaeGreatDoorDefs
import Derived.Test.YtnfojnnfidnikaeGreatDoorPf6
import Derived.Test.YtnfojnnfidnikaeGreatDoorShelf
open Go Go.Eng Go.Proofs
namespace Go.Proofs.YtnfojnnfidnikaeGreatDoor.Law
set_option maxRecDepth 100000
set_option linter.unusedVariables false
set_option maxHeartbeats 1000000
theorem Dy {b:Entry} {f:Int} {r:Bool} (c:oW b f=some r) :
  FnM Tryz.prog 137 [(.d (.agg (Entry.enc b))),(vI f)] [] (vB r) []:=by
 refine FnM.of_wH ⟨Tryz.prog,41,[],[]⟩ rfl Tryz.func137 rfl rfl (lb_ rfl) (by kernel_rfl) ?_
 unfold oW at c
 refine ai (ib 0 (.inl rfl) (Entry.v b) rfl rfl wz (λk=>aa (vB false) (af (ak (ak ?_)))))
 obtain ⟨t,a,c⟩:=bind_some c
 refine aR [(1,(vI f)),(2,(.ref k 0 0)),(31,(vB t))] [(k,some (.cells 13 (Entry.v b)))] ?_ ?_
 ·refine bg (aa (vI f) (aK Gu rfl 3 rfl wz (aI 2 0 (.inr (by kernel_rfl)) (λ_ _ ag=>trivial) sz3 ag3 rfl rfl (vI b.First) rfl wz (aK Gg rfl 4 rfl wz (aI 4 0 (.inr (by kernel_rfl)) (λ_ _ ag=>⟨.inl ⟨rfl,rfl⟩,trivial⟩) sz3 ag3 rfl rfl (vI b.Last) rfl wz ?_)))))
  obtain ⟨w,p,a⟩:=bind_some a
  refine aB (bf p) rfl qc rfl rfl rfl rfl wz ?_
  rcases aj a with⟨i,a⟩|⟨i,a⟩
  ·refine aH rfl i wz (ah (ah (ah (ah (ah (ah (ah (ah (aa (vB true) (aa (vB true) (ah (ah (ah (ah (ah (ah (ah (aa (vB true) (af ?_)))))))))))))))))))
   obtain rfl:=ae a
   exact cu
  ·refine aH rfl i wz (aL (vI f) wa rfl (aK Gu rfl 3 rfl wa (aI 9 0 (.inr (by kernel_rfl)) (λ_ _ ag=>⟨.inl ⟨rfl,rfl⟩,⟨.inl ⟨rfl,rfl⟩,trivial⟩⟩) sz3 ag3 rfl rfl (vI b.First) rfl wa (aL (vI (w64 (f-b.First))) wa rfl (aK PG rfl 5 rfl wa (aI 12 0 (.inr (by kernel_rfl)) (λ_ _ ag=>⟨.inl ⟨rfl,rfl⟩,⟨.inl ⟨rfl,rfl⟩,⟨.inl ⟨rfl,rfl⟩,trivial⟩⟩⟩) sz3 ag3 rfl rfl (vI b.Every) rfl wa ?_))))))
   obtain ⟨l,q,a⟩:=bind_some a
   refine Tt rfl rfl q wa (aL (vB (l != 0)) wa rfl (aa (vB (l != 0)) ?_))
   rcases aj a with⟨g,a⟩|⟨g,a⟩
   ·refine aH rfl g wz (ah (ah (ah (ah (ah (ah (ah (aa (vB true) (af ?_)))))))))
    obtain rfl:=ae a
    exact cu
   ·refine aH rfl g wz (aK Qt rfl 6 rfl wa (aI 18 0 (.inr (by kernel_rfl)) (λ_ _ ag=>⟨.inl ⟨rfl,rfl⟩,⟨.inl ⟨rfl,rfl⟩,⟨.inl ⟨rfl,rfl⟩,⟨.inl ⟨rfl,rfl⟩,trivial⟩⟩⟩⟩) sz3 ag3 rfl rfl (vI b.Days) rfl wa (aL (vI f) wa rfl (aL (vI (f.tmod 7)) wa rfl ?_))))
    obtain ⟨j,s,a⟩:=bind_some a
    refine h_shl rfl rfl s wa (aL (vI (EF .i64 b.Days j)) wa rfl (aL (vB ((EF .i64 b.Days j)==0)) wa rfl (aa (vB ((EF .i64 b.Days j)==0)) (af ?_))))
    obtain rfl:=ae a
    exact cu
 ·rintro ⟨⟩ _ x u m n
  refine aO _ m n ?_
  rcases aj c with⟨h,c⟩|⟨h,c⟩
  ·refine ay rfl h (ai (aa (vB false) (af ?_)))
   obtain rfl:=ae c
   exact aC (aN [(vB false)] ⟨rfl,trivial⟩)
  ·refine ax rfl h (av (ai (aK Qr rfl 7 rfl wz (aI 0 0 il ft Rf QI rfl rfl (vL eI b.Except) rfl wz (aa (vI f) ?_)))))
   obtain ⟨e,o,c⟩:=bind_some c
   refine aB (sS o) rfl hb179 rfl rfl rfl rfl wz (aa (.tup [(vI e.1),(vB e.2)]) (aa (vI e.1) (aa (vB e.2) (aa (vI e.1) (aa (vB e.2) (af (ai (aa (vB e.2) (aa (vB (!e.2)) (aa (vB (!e.2)) (af ?_)))))))))))
   obtain rfl:=ae c
   exact aC (aN [(vB (!e.2))] ⟨rfl,trivial⟩)
theorem Cr {a:Entry} {c:Int} {b:Int} {r:Window} (g:qF a c b=some r) :
  FnM Tryz.prog 138 [(.d (.agg (Entry.enc a))),(vI c),(vI b)] [] (.d (.agg (Window.enc r))) []:=by
 refine FnM.of_wH ⟨Tryz.prog,32,[],[]⟩ rfl Tryz.func138 rfl rfl (lb_ rfl) (by kernel_rfl) ?_
 unfold qF at g
 refine ai (ib 0 (.inl rfl) (Entry.v a) rfl rfl wz (λi=>dA 0 (.inl rfl) Sk rfl wz (λj=>af (ai (aK Qj rfl 9 rfl wz (aI 0 0 il ft sz3 ag3 rfl rfl (vI a.To) rfl wz (aK Kv rfl 8 rfl wz (aI 0 0 il ft sz3 ag3 rfl rfl (vI a.From) rfl wz (aa (vI (w64 (a.To-a.From))) (aa (vI (w64 (a.To-a.From))) (af (ak (ai (aa (vI (w64 (a.To-a.From))) (aa (vB (decide ((w64 (a.To-a.From))<=0))) (af ?_))))))))))))))))
 obtain ⟨e,f,g⟩:=bind_some g
 refine aR [(1,(vI c)),(2,(vI b)),(3,(.ref i 0 0)),(6,(.ref j 0 0)),(7,(vI e))] [(i,some (.cells 13 (Entry.v a))),(j,some (.cells 2 [(vI 0),(vI 0)]))] ?_ ?_
 ·rcases aj f with⟨h,f⟩|⟨h,f⟩
  ·refine ay rfl h (au (aa (vI (w64 (a.To-a.From))) (aa (vI (w64 ((w64 (a.To-a.From))+1440))) (aa (vI (w64 ((w64 (a.To-a.From))+1440))) (af ?_)))))
   obtain rfl:=ae f
   exact cu
  ·refine ax rfl h (av ?_)
   obtain rfl:=ae f
   exact cu
 ·rintro ⟨⟩ _ n m k l
  refine aO _ k l (ai (aa (vI b) (aa (vI (w64 (b*1440))) (aK Kv rfl 8 rfl wz (aI 0 0 il ft sz3 ag3 rfl rfl (vI a.From) rfl wz (aa (vI (w64 ((w64 (b*1440))+a.From))) (aa (vI c) (aa (vI (w64 ((w64 ((w64 (b*1440))+a.From))-c))) (aa (vI (w64 ((w64 ((w64 ((w64 (b*1440))+a.From))-c))*60000))) (aa (vI (w64 ((w64 ((w64 ((w64 (b*1440))+a.From))-c))*60000))) (af (ai (aa (vI (w64 ((w64 ((w64 ((w64 (b*1440))+a.From))-c))*60000))) (aa (vI (w64 ((w64 ((w64 ((w64 (b*1440))+a.From))-c))*60000))) (aa (vI e) (aa (vI (w64 (e*60000))) (aa (vI (w64 ((w64 ((w64 ((w64 ((w64 (b*1440))+a.From))-c))*60000))+(w64 (e*60000))))) (aL (.d (.agg (Window.enc (⟨(w64 ((w64 ((w64 ((w64 (b*1440))+a.From))-c))*60000)),(w64 ((w64 ((w64 ((w64 ((w64 (b*1440))+a.From))-c))*60000))+(w64 (e*60000))))⟩:Window)))) wz (by kernel_rfl) (jw 0 il ft 1 vP rfl rfl [(vI (w64 ((w64 ((w64 ((w64 (b*1440))+a.From))-c))*60000))),(vI (w64 ((w64 ((w64 ((w64 ((w64 (b*1440))+a.From))-c))*60000))+(w64 (e*60000)))))] rfl wz (af ?_))))))))))))))))))))
  obtain rfl:=ae g
  exact aC (aN [(.d (.agg (Window.enc (⟨(w64 ((w64 ((w64 ((w64 (b*1440))+a.From))-c))*60000)),(w64 ((w64 ((w64 ((w64 ((w64 (b*1440))+a.From))-c))*60000))+(w64 (e*60000))))⟩:Window))))] ⟨⟨1,_,_,_,_,_,_,_,rfl,rfl,vP,DZ,rfl⟩,trivial⟩)
theorem FH {a:Window} {b:Window} {r:Window} (c:y8 a b=some r) :
  FnM Tryz.prog 89 [(.d (.agg (Window.enc a))),(.d (.agg (Window.enc b)))] [] (.d (.agg (Window.enc r))) []:=by
 refine FnM.of_wH ⟨Tryz.prog,16,[],[]⟩ rfl Tryz.func89 rfl rfl (lb_ rfl) (by kernel_rfl) ?_
 unfold y8 at c
 refine ai (ib 0 (.inl rfl) [(vI a.From),(vI a.To)] rfl rfl wz (λe=>ib 0 (.inl rfl) [(vI b.From),(vI b.To)] rfl rfl wz (λf=>dA 0 (.inl rfl) Sk rfl wz (λg=>af (ai (aK pG rfl 0 rfl wz (aI 0 0 il ft sz3 ag3 rfl rfl (vI a.From) rfl wz (aK pG rfl 0 rfl wz (aI 0 1 il ft sz3 ag3 rfl rfl (vI b.From) rfl wz (uE (vI (jI a.From b.From)) rfl (.inr rfl) wz (aK o7 rfl 1 rfl wz (aI 0 0 il ft sz3 ag3 rfl rfl (vI a.To) rfl wz (aK o7 rfl 1 rfl wz (aI 0 1 il ft sz3 ag3 rfl rfl (vI b.To) rfl wz (uE (vI (K5 a.To b.To)) rfl (.inl rfl) wz (aL (.d (.agg (Window.enc (⟨(jI a.From b.From),(K5 a.To b.To)⟩:Window)))) wz (by kernel_rfl) (jw 0 il ft 2 vP rfl rfl [(vI (jI a.From b.From)),(vI (K5 a.To b.To))] rfl wz (af ?_))))))))))))))))))
 obtain rfl:=ae c
 exact aC (aN [(.d (.agg (Window.enc (⟨(jI a.From b.From),(K5 a.To b.To)⟩:Window))))] ⟨⟨2,_,_,_,_,_,_,_,rfl,rfl,vP,DZ,rfl⟩,trivial⟩)
theorem Cm {e:Entry} {c:Int} {a:Window} {r:(List Window)} (j:oD e c a=some r) :
  FnM Tryz.prog 88 [(.d (.agg (Entry.enc e))),(vI c),(.d (.agg (Window.enc a)))] [] (gV (aA 0) 2 r) (([]:List Box).map some++gO 2 Window.enc r):=by
 refine FnM.of_wH ⟨Tryz.prog,72,[],[]⟩ rfl Tryz.func88 rfl rfl (lb_ rfl) (by kernel_rfl) ?_
 unfold oD at j
 refine ai (ib 0 (.inl rfl) (Entry.v e) rfl rfl wz (λk=>ib 0 (.inl rfl) [(vI a.From),(vI a.To)] rfl rfl wz (λl=>aa .nil (af (ai (aa .nil (af (ak (ak ?_)))))))))
 obtain ⟨Y,u,j⟩:=bind_some j
 refine aR [(1,(vI c)),(3,(.ref k 0 0)),(5,(.ref l 0 0)),(7,.nil),(20,(vB Y))] [(k,some (.cells 13 (Entry.v e))),(l,some (.cells 2 [(vI a.From),(vI a.To)]))] ?_ ?_
 ·refine au (aK SI rfl 12 rfl wz (aI 0 0 il ft sz4 ag4 rfl rfl (vB e.Gone) rfl wz ?_))
  rcases aj u with⟨E,u⟩|⟨E,u⟩
  ·refine aH rfl E wz (ah (ah (ah (ah (ah (aa (vB true) (af ?_)))))))
   obtain rfl:=ae u
   exact cu
  ·refine aH rfl E wz (aK pG rfl 0 rfl wa (aI 0 1 il ft sz3 ag3 rfl rfl (vI a.From) rfl wa (aK o7 rfl 1 rfl wa (aI 0 1 il ft sz3 ag3 rfl rfl (vI a.To) rfl wa (aL (vB (decide (a.From>=a.To))) wa rfl (aa (vB (decide (a.From>=a.To))) (af ?_)))))))
   obtain rfl:=ae u
   exact cu
 ·rintro ⟨⟩ _ I y o q
  refine aO _ o q ?_
  rcases aj j with⟨F,j⟩|⟨F,j⟩
  ·refine ay rfl F (ai (aa .nil (af (iM (λÀ => ?_)))))
   obtain rfl:=ae j
   exact aC (finG (outs:=([]:List Box)) (.inr rfl) 2 rfl rfl rfl (by kernel_rfl) (by kernel_rfl))
  ·refine ax rfl F (av (ai (aK pG rfl 0 rfl wz (aI 0 1 il ft sz3 ag3 rfl rfl (vI a.From) rfl wz (aa (vI c) (aa (vI (w64 (c*60000))) (aa (vI (w64 (a.From+(w64 (c*60000))))) (aa (vI (w64 ((w64 (a.From+(w64 (c*60000)))).tdiv 86400000))) (aa (vI (w64 ((w64 ((w64 (a.From+(w64 (c*60000)))).tdiv 86400000))-2))) (aa (vI (w64 ((w64 ((w64 (a.From+(w64 (c*60000)))).tdiv 86400000))-2))) (af (ai (aK o7 rfl 1 rfl wz (aI 0 1 il ft sz3 ag3 rfl rfl (vI a.To) rfl wz (aa (vI c) (aa (vI (w64 (c*60000))) (aa (vI (w64 (a.To+(w64 (c*60000))))) (aa (vI (w64 ((w64 (a.To+(w64 (c*60000)))).tdiv 86400000))) (aa (vI (w64 ((w64 ((w64 (a.To+(w64 (c*60000)))).tdiv 86400000))+1))) (aa (vI (w64 ((w64 ((w64 (a.To+(w64 (c*60000)))).tdiv 86400000))+1))) (af (ak (ai ?_)))))))))))))))))))))))
   refine aa (vI (w64 ((w64 ((w64 (a.From+(w64 (c*60000)))).tdiv 86400000))-2))) (aK Gu rfl 3 rfl wz (aI 0 0 il ft sz3 ag3 rfl rfl (vI e.First) rfl wz (uE (vI (jI (w64 ((w64 ((w64 (a.From+(w64 (c*60000)))).tdiv 86400000))-2)) e.First)) rfl (.inr rfl) wz (aa (vI (jI (w64 ((w64 ((w64 (a.From+(w64 (c*60000)))).tdiv 86400000))-2)) e.First)) (af (iM (λR => ?_)))))))
   obtain ⟨U,G,j⟩:=bind_some j
   obtain ⟨T,G⟩:=bv G
   refine yG (σ:=(List Window)×Int) (N:=Nm) (λp=>(λ(b:(List Window)×Int) (g:Nm)=>([(7,(gV g 2 b.1))]:SL_)) p.1 p.2) (λp=>(λ(b:(List Window)×Int) (g:Nm)=>([(k,some (.cells 13 (Entry.v e))),(l,some (.cells 2 [(vI a.From),(vI a.To)])),(g,gB 2 Window.enc b.1)]:Hp)) p.1 p.2) (λ(w:Nat)=>(λp=>(λ(b:(List Window)×Int) (g:Nm)=>([(1,(vI c)),(3,(.ref k 0 0)),(5,(.ref l 0 0)),(7,(gV g 2 b.1)),(9,(vI (w64 ((w64 ((w64 (a.To+(w64 (c*60000)))).tdiv 86400000))+1)))),(10,(vI b.2))]:SL_)) p.1 p.2)) (λs=>lJ a c e s) U T ((([]:List Window),(jI (w64 ((w64 ((w64 (a.From+(w64 (c*60000)))).tdiv 86400000))-2)) e.First)),R) G rfl (aG rfl) ?_ ?_
   ·rintro ⟨w,b,g⟩ m
    dsimp only at m
    cases w with
    | zero=>cases m
    | succ w =>
     obtain ⟨Z,f,m⟩:=bind_some m
     unfold lJ at f
     refine ak (ai (aa (vI b.2) (aa (vI (w64 ((w64 ((w64 (a.To+(w64 (c*60000)))).tdiv 86400000))+1))) (aK Gg rfl 4 rfl wz (aI 0 0 il ft sz3 ag3 rfl rfl (vI e.Last) rfl wz (uE (vI (K5 (w64 ((w64 ((w64 (a.To+(w64 (c*60000)))).tdiv 86400000))+1)) e.Last)) rfl (.inl rfl) wz (aa (vB (decide (b.2<=(K5 (w64 ((w64 ((w64 (a.To+(w64 (c*60000)))).tdiv 86400000))+1)) e.Last)))) (af ?_))))))))
     rcases aj f with⟨z,f⟩|⟨z,f⟩
     ·refine ay rfl z (av (ak (aM (ak (ai (aI 0 0 il ft GD JX rfl rfl (.d (.agg (Entry.enc e))) rfl wz (aa (vI b.2) ?_)))))))
      obtain ⟨W,O,f⟩:=bind_some f
      refine aB (Dy O) rfl hb137 rfl rfl rfl rfl wz (aa (vB (!W)) (af ?_))
      rcases aj f with⟨A,f⟩|⟨A,f⟩
      ·refine ay rfl A (aU (au (aa (vI b.2) (aa (vI (w64 (b.2+1))) (aa (vI (w64 (b.2+1))) (af ?_))))))
       obtain rfl:=ae f
       exact aV (w,(b.1,(w64 (b.2+1))),g) m (ls_ _) rfl (aG rfl)
      ·refine ax rfl A (av (ai (aI 0 0 il ft GD JX rfl rfl (.d (.agg (Entry.enc e))) rfl wz (aa (vI c) (aa (vI b.2) ?_)))))
       obtain ⟨h,P,f⟩:=bind_some f
       refine aB (Cr P) rfl hb138 rfl rfl rfl rfl wz (dA 0 (.inl rfl) Sk rfl wz (λH=>jw 0 il ft 3 vP rfl rfl [(vI h.From),(vI h.To)] rfl wz (af (ak ?_))))
       obtain ⟨X,t,f⟩:=bind_some f
       refine aR [(1,(vI c)),(3,(.ref k 0 0)),(5,(.ref l 0 0)),(7,(gV g 2 b.1)),(9,(vI (w64 ((w64 ((w64 (a.To+(w64 (c*60000)))).tdiv 86400000))+1)))),(10,(vI b.2)),(11,(.ref H 0 0)),(66,(vB X))] [(k,some (.cells 13 (Entry.v e))),(l,some (.cells 2 [(vI a.From),(vI a.To)])),(g,gB 2 Window.enc b.1),(H,some (.cells 2 [(vI h.From),(vI h.To)]))] ?_ ?_
       ·refine au (aK pG rfl 0 rfl wz (aI 0 3 il ft sz3 ag3 rfl rfl (vI h.From) rfl wz (aK o7 rfl 1 rfl wz (aI 0 1 il ft sz3 ag3 rfl rfl (vI a.To) rfl wz (aa (vB (decide (h.From<a.To))) ?_)))))
        rcases aj t with⟨B,t⟩|⟨B,t⟩
        ·refine aH rfl B wz (aK o7 rfl 1 rfl wa (aI 0 3 il ft sz3 ag3 rfl rfl (vI h.To) rfl wa (aK pG rfl 0 rfl wa (aI 0 1 il ft sz3 ag3 rfl rfl (vI a.From) rfl wa (aL (vB (decide (h.To>a.From))) wa rfl (aa (vB (decide (h.To>a.From))) (af ?_)))))))
         obtain rfl:=ae t
         exact cu
        ·refine aH rfl B wz (ah (ah (ah (ah (ah (aa (vB false) (af ?_)))))))
         obtain rfl:=ae t
         exact cu
       ·rintro ⟨⟩ _ I y o q
        refine aO _ o q ?_
        obtain ⟨J,n,f⟩:=bind_some f
        refine lu (β:=Nm) (λ(x:Nm)=>([(1,(vI c)),(3,(.ref k 0 0)),(5,(.ref l 0 0)),(7,(gV x 2 J)),(9,(vI (w64 ((w64 ((w64 (a.To+(w64 (c*60000)))).tdiv 86400000))+1)))),(10,(vI b.2))]:SL_)) (λ(x:Nm)=>([(k,some (.cells 13 (Entry.v e))),(l,some (.cells 2 [(vI a.From),(vI a.To)])),(x,gB 2 Window.enc J),(H,some (.cells 2 [(vI h.From),(vI h.To)]))]:Hp)) (λ_=>True) ?_ ?_
        ·rcases aj n with⟨C,n⟩|⟨C,n⟩
         ·refine ay rfl C (au (aa (gV g 2 b.1) (aI 0 3 il ft vP DZ rfl rfl (.d (.agg (Window.enc h))) rfl wz (eu (([h]:List Window).map Window.enc) TA ez108 rfl rfl rfl rfl rfl wz ?_))))
          obtain ⟨L,Q,n⟩:=bind_some n
          refine jF 0 il ft (i:=2) el108 el108 vP Sk rfl (by decide) by114 (by decide) (λ_=>rfl) rfl rfl rfl Q wz (λK=>aa (gV K 2 L) (af ?_))
          obtain rfl:=ae n
          exact aW K trivial rfl (aG rfl)
         ·refine ax rfl C (av ?_)
          obtain rfl:=ae n
          exact aW g trivial rfl (aG rfl)
        ·rintro x _ I y o q
         refine aO _ o q (au (aa (vI b.2) (aa (vI (w64 (b.2+1))) (aa (vI (w64 (b.2+1))) (af ?_)))))
         obtain rfl:=ae f
         exact aV (w,(J,(w64 (b.2+1))),x) m (ls_ _) rfl (aG rfl)
     ·refine ax rfl z (aU ?_)
      obtain rfl:=ae f
      obtain rfl:=ae m
      exact aW ((b.1,b.2),g) rfl rfl (aG rfl)
   ·rintro ⟨b,g⟩ M I y o q
    subst M
    refine aO _ o q (ai (aa (gV g 2 b.1) (aa (gV g 2 b.1) (af ?_))))
    obtain rfl:=ae j
    exact aC (finG (outs:=([]:List Box)) (.inr rfl) 2 rfl rfl rfl (by kernel_rfl) (by kernel_rfl))
theorem D5 {h:Entry} {q:Int} {g:Window} {r:(List Window)×Int} (a:oM h q g=some r) :
  FnM Tryz.prog 54 [(.d (.agg (Entry.enc h))),(vI q),(.d (.agg (Window.enc g)))] [] (.tup [(vL Window.enc r.1),(vI r.2)]) []:=by
 refine FnM.of_wH ⟨Tryz.prog,45,[],[]⟩ rfl Tryz.func54 rfl rfl (lb_ rfl) (by kernel_rfl) ?_
 unfold oM at a
 refine ai (ib 0 (.inl rfl) (Entry.v h) rfl rfl wz (λE=>ib 0 (.inl rfl) [(vI g.From),(vI g.To)] rfl rfl wz (λA=>aa .nil (aa (vI 0) (af (ak (ai (aI 0 0 il ft GD JX rfl rfl (.d (.agg (Entry.enc h))) rfl wz (eu (([h]:List Entry).map Entry.enc) TV ez150 rfl rfl rfl rfl rfl wz ?_)))))))))
 obtain ⟨l,N,a⟩:=bind_some a
 refine aB (xV N) rfl hb86 rfl rfl rfl rfl wz (aa (vI l) (af (ai (aa (vI l) (aa (vB (l != 0)) (af ?_))))))
 rcases aj a with⟨w,a⟩|⟨w,a⟩
 ·refine ay rfl w (ai (aa (vI l) (aa .nil (aa (vI l) (af ?_)))))
  obtain rfl:=ae a
  exact aC (aN [.nil,(vI l)] ⟨rfl,⟨rfl,trivial⟩⟩)
 ·refine ax rfl w (av (ak (ai (aa (vI q) ?_))))
  obtain ⟨X,J,a⟩:=bind_some a
  refine aB (bf J) rfl qc rfl rfl rfl rfl wz (af ?_)
  rcases aj a with⟨t,a⟩|⟨t,a⟩
  ·refine ay rfl t (ai (aa .nil (aa (vI 1) (af ?_))))
   obtain rfl:=ae a
   exact aC (aN [.nil,(vI 1)] ⟨rfl,⟨rfl,trivial⟩⟩)
  ·refine ax rfl t (av (ak (ai (aI 0 1 il ft vP DZ rfl rfl (.d (.agg (Window.enc g))) rfl wz ?_))))
   obtain ⟨j,K,a⟩:=bind_some a
   refine aB (xZ K) rfl hb87 rfl rfl rfl rfl wz (aa (vI j) (af (ai (aa (vI j) (aa (vB (j != 0)) (af ?_))))))
   rcases aj a with⟨u,a⟩|⟨u,a⟩
   ·refine ay rfl u (ai (aa (vI j) (aa .nil (aa (vI j) (af ?_)))))
    obtain rfl:=ae a
    exact aC (aN [.nil,(vI j)] ⟨rfl,⟨rfl,trivial⟩⟩)
   ·refine ax rfl u (av (ai (aI 0 0 il ft GD JX rfl rfl (.d (.agg (Entry.enc h))) rfl wz (aa (vI q) (aI 0 1 il ft vP DZ rfl rfl (.d (.agg (Window.enc g))) rfl wz ?_)))))
    obtain ⟨i,L,a⟩:=bind_some a
    refine Pj [] (Cm L) rfl hb88 rfl (by kernel_rfl) (by kernel_rfl) (by kernel_rfl) (by kernel_rfl) (by kernel_rfl) rfl (by decide) (by kernel_rfl) wz ([(E,some (.cells 13 (Entry.v h))),(A,some (.cells 2 [(vI g.From),(vI g.To)]))]:Hp) (λ_=>by kernel_rfl) (λf=>aa (gV f 2 i) (af (ak (ai (aa (gV f 2 i) (CB un108 rfl wz (aa (vI 0) (af ?_))))))))
    obtain ⟨Q,y,a⟩:=bind_some a
    obtain ⟨F,y⟩:=aY y
    refine bN (λ(b:List Window)=>[(10,(gV f 2 b))]) (λ(b:List Window)=>[(E,some (.cells 13 (Entry.v h))),(A,some (.cells 2 [(vI g.From),(vI g.To)])),(f,gB 2 Window.enc b)]) (λ(c:Nat)=>(λ(b:List Window)=>[(5,(.ref A 0 0)),(10,(gV f 2 b)),(30,(gV f 2 b)),(31,(vI (i.length:Int))),(32,(vI (c:Int)))])) (λk x s=>nY g k x s) Q (List.range ((i.length:Int)).toNat) i y rfl (aG rfl) ?_ ?_
    ·rintro ⟨c,z,b⟩ ⟨n,m⟩
     dsimp only at n m
     cases z with
     | nil =>
      obtain rfl:=ae n
      refine ai (aa (vB (decide ((c:Int)<(i.length:Int)))) (af ?_))
      refine ak (ax rfl (lH m) (aU ?_))
      exact aW (b) rfl rfl (aG rfl)
     | cons Z z =>
      obtain ⟨T,e,n⟩:=bind_some n
      refine ai (aa (vB (decide ((c:Int)<(i.length:Int)))) (af ?_))
      refine ak (ay rfl (jZ m) (av ?_))
      unfold nY at e
      refine ak (aM (ai (aa (vI (c:Int)) ?_)))
      obtain ⟨_,B,e⟩:=bind_some e
      refine yK TA rfl rfl (ik B) (dN B) wz ?_
      obtain ⟨p,O,e⟩:=bind_some e
      refine kw 0 2 il ft vP DZ rfl rfl O (.d (.agg (Window.enc p))) rfl wz (dA 0 (.inl rfl) Sk rfl wz (λW=>aa (vI (c:Int)) (jw 0 il ft 3 vP rfl rfl [(vI p.From),(vI p.To)] rfl wz (af (au (aa (gV f 2 b) (aa (vI (c:Int)) (aI 0 3 il ft vP DZ rfl rfl (.d (.agg (Window.enc p))) rfl wz (aI 0 1 il ft vP DZ rfl rfl (.d (.agg (Window.enc g))) rfl wz ?_)))))))))
      obtain ⟨o,M,e⟩:=bind_some e
      refine aB (FH M) rfl hb89 rfl rfl rfl rfl wz ?_
      obtain ⟨_,C,e⟩:=bind_some e
      refine yK TA rfl rfl (ik C) (dN C) wz ?_
      obtain ⟨U,P,e⟩:=bind_some e
      refine sw 0 il ft 2 vP rfl rfl P o rfl wz (bT (v':=(gV f 2 (b.set (0+((c:Int)).toNat) o))) 10 rfl (jg (by simp)) (bT (v':=(gV f 2 (b.set (0+((c:Int)).toNat) o))) 30 rfl (jg (by simp)) (bT (v':=(gV f 2 (b.set (0+((c:Int)).toNat) o))) 37 rfl (jg (by simp)) (af (au (dH (lF m F) wz rfl (aa (vI ((c+1:Nat):Int)) (af ?_))))))))
      obtain rfl:=ae e
      exact aV (c+1,z,(b.set (0+((c:Int)).toNat) o)) ⟨n,aX m⟩ (ls_ _) rfl (aG rfl)
    ·rintro b G Y R H I
     subst G
     refine aO _ H I (ai (aa (gV f 2 b) (aa (gV f 2 b) (aa (vI 0) (af (iq 2 rfl (cO 6 2 rfl rfl (cO 10 2 rfl rfl (cO 44 2 rfl rfl ?_)))))))))
     obtain rfl:=ae a
     exact aC (aN [(vL Window.enc b),(vI 0)] ⟨rfl,⟨rfl,trivial⟩⟩)
theorem CX {a:Window} {r:Bool} (c:rV a=some r) :
  FnM Tryz.prog 139 [(.d (.agg (Window.enc a)))] [] (vB r) []:=by
 refine FnM.of_wH ⟨Tryz.prog,18,[],[]⟩ rfl Tryz.func139 rfl rfl (lb_ rfl) (by kernel_rfl) ?_
 unfold rV at c
 refine ai (ib 0 (.inl rfl) [(vI a.From),(vI a.To)] rfl rfl wz (λj=>aa (vB false) (af (ak ?_))))
 obtain ⟨g,b,c⟩:=bind_some c
 refine aR [(2,(vB g))] [(j,some (.cells 2 [(vI a.From),(vI a.To)]))] ?_ ?_
 ·refine au (aK pG rfl 0 rfl wz (aI 0 0 il ft sz3 ag3 rfl rfl (vI a.From) rfl wz (aa (vB (decide (a.From>=0))) ?_)))
  rcases aj b with⟨e,b⟩|⟨e,b⟩
  ·refine aH rfl e wz (aK pG rfl 0 rfl wa (aI 0 0 il ft sz3 ag3 rfl rfl (vI a.From) rfl wa (aK o7 rfl 1 rfl wa (aI 0 0 il ft sz3 ag3 rfl rfl (vI a.To) rfl wa (aL (vB (decide (a.From<a.To))) wa rfl (aa (vB (decide (a.From<a.To))) ?_))))))
   rcases aj b with⟨f,b⟩|⟨f,b⟩
   ·refine aH rfl f wz (aK o7 rfl 1 rfl wa (aI 0 0 il ft sz3 ag3 rfl rfl (vI a.To) rfl wa (aL (vB (decide (a.To<=345686400000))) wa rfl (aa (vB (decide (a.To<=345686400000))) (aa (vB (decide (a.To<=345686400000))) (af ?_))))))
    obtain rfl:=ae b
    exact cu
   ·refine aH rfl f wz (ah (ah (ah (aa (vB false) (aa (vB false) (af ?_))))))
    obtain rfl:=ae b
    exact cu
  ·refine aH rfl e wz (ah (ah (ah (ah (ah (aa (vB false) (aa (vB false) (ah (ah (ah (aa (vB false) (aa (vB false) (af ?_)))))))))))))
   obtain rfl:=ae b
   exact cu
 ·rintro ⟨⟩ _ l k h i
  refine aO _ h i ?_
  obtain rfl:=ae c
  exact aC (aN [(vB g)] ⟨rfl,trivial⟩)
theorem AX {b:(List ByteArray)} {r:Int} (a:lT b=some r) :
  FnM Tryz.prog 140 [(vL eS b)] [] (vI r) []:=by
 refine FnM.of_wH ⟨Tryz.prog,8,[],[]⟩ rfl Tryz.func140 rfl rfl (lb_ rfl) (by kernel_rfl) ?_
 unfold lT at a
 refine ai (aa (vI 0) (af (ak (ai (aa (vL eS b) (bA vk rfl wz (aa (vB (decide ((b.length:Int)>20))) (af ?_))))))))
 rcases aj a with⟨c,a⟩|⟨c,a⟩
 ·refine ay rfl c (ai (aa (vI 2) (af ?_)))
  obtain rfl:=ae a
  exact aC (aN [(vI 2)] ⟨rfl,trivial⟩)
 ·refine ax rfl c (av (ai (aa (vL eS b) ?_)))
  obtain ⟨d,e,a⟩:=bind_some a
  refine aB (wO e) rfl hb180 rfl rfl rfl rfl wz (aa (vI d) (af ?_))
  obtain rfl:=ae a
  exact aC (aN [(vI d)] ⟨rfl,trivial⟩)
theorem xu {b:(List Campaign)} {r:Int} (h:jl b=some r) :
  FnM Tryz.prog 90 [(vL Campaign.enc b)] [] (vI r) []:=by
 refine FnM.of_wH ⟨Tryz.prog,73,[],[]⟩ rfl Tryz.func90 rfl rfl (lb_ rfl) (by kernel_rfl) ?_
 unfold jl at h
 refine ai (aa (vI 0) (af (ak (ai (aa (vL Campaign.enc b) (bA un155 rfl wz (aa (vB (decide ((b.length:Int)>30))) (af ?_))))))))
 rcases aj h with⟨A,h⟩|⟨A,h⟩
 ·refine ay rfl A (ai (aa (vI 2) (af ?_)))
  obtain rfl:=ae h
  exact aC (aN [(vI 2)] ⟨rfl,trivial⟩)
 ·refine ax rfl A (av (ak (ai (aa (vL Campaign.enc b) (bA un155 rfl wz (aa (vI 0) (af ?_)))))))
  obtain ⟨À,K,h⟩:=bind_some h
  obtain ⟨O,K⟩:=aY K
  refine bN (λ(q:Unit)=>[]) (λ(q:Unit)=>[]) (λ(f:Nat)=>(λ(q:Unit)=>[(0,(vL Campaign.enc b)),(9,(vL Campaign.enc b)),(10,(vI (b.length:Int))),(11,(vI (f:Int)))])) (λk x s=>gL b k x s) À b () K rfl (aG rfl) ?_ ?_
  ·rintro ⟨f,L,q⟩ ⟨i,n⟩
   dsimp only at i n
   cases L with
   | nil =>
    obtain rfl:=ae i
    refine ai (aa (vB (decide ((f:Int)<(b.length:Int)))) (af ?_))
    refine ak (ax rfl (drop_nil n) (aU ?_))
    exact aW (q) rfl rfl (aG rfl)
   | cons e L =>
    obtain ⟨È,a,i⟩:=bind_some i
    refine ai (aa (vB (decide ((f:Int)<(b.length:Int)))) (af ?_))
    refine ak (ay rfl (bu n) (av ?_))
    unfold gL at a
    refine ak (aM (ai (aa (vI (f:Int)) (dC RN rfl rfl (bI n) rfl wz (bE PE UH rfl (.d (.agg (Campaign.enc e))) rfl wz (dA 0 (.inl rfl) z117 rfl wz (λo=>aa (vI (f:Int)) (jw 0 il ft 0 PE rfl rfl (Campaign.v e) rfl wz (af (ak (aM (ak ?_))))))))))))
    obtain ⟨Å,g,a⟩:=bind_some a
    refine aR [(0,(vL Campaign.enc b)),(3,(vI (f:Int))),(4,(.ref o 0 0)),(9,(vL Campaign.enc b)),(10,(vI (b.length:Int))),(11,(vI (f:Int))),(16,(vB Å))] [(o,some (.cells 8 (Campaign.v e)))] ?_ ?_
    ·refine au (aK Lh rfl 0 rfl wz (aI 0 0 il ft sz9 ag9 rfl rfl (vS e.Key) rfl wz ?_))
     obtain ⟨Á,Q,g⟩:=bind_some g
     refine aB (eU Q) rfl CO rfl rfl rfl rfl wz (aa (vB (!Á)) ?_)
     rcases aj g with⟨y,g⟩|⟨y,g⟩
     ·refine aH rfl y wz (ah (ah (ah (ah (dK (wn rfl rfl) (dK (wn rfl rfl) (dK (wn rfl rfl) (dK (wn rfl rfl) (ah (aa (vB true) (aa (vB true) (af ?_))))))))))))
      obtain rfl:=ae g
      exact cu
     ·refine aH rfl y wz (aK Pp rfl 1 rfl wa (aI 0 0 il ft sz9 ag9 rfl rfl (vS e.Class) rfl wa (aL (vB (sNe e.Class (⟨#[]⟩:ByteArray))) wa rfl ?_)))
      rcases aj g with⟨z,g⟩|⟨z,g⟩
      ·refine aH rfl z wa (aK Pp rfl 1 rfl wa (aI 0 0 il ft sz9 ag9 rfl rfl (vS e.Class) rfl wa ?_))
       obtain ⟨u,R,g⟩:=bind_some g
       refine aB (eU R) rfl CO rfl rfl rfl rfl wa (aL (vB (!u)) wa rfl (aL (vB (!u)) wa rfl (aa (vB (!u)) (aa (vB (!u)) (af ?_)))))
       obtain rfl:=ae g
       exact cu
      ·refine aH rfl z wa (ah (ah (ah (ah (aL (vB false) wa rfl (aa (vB false) (aa (vB false) (af ?_))))))))
       obtain rfl:=ae g
       exact cu
    ·rintro ⟨⟩ _ M w l m
     refine aO _ l m ?_
     rcases aj a with⟨B,a⟩|⟨B,a⟩
     ·refine ay rfl B (ai (aa (vI 5) (af ?_)))
      obtain rfl:=ae a
      obtain rfl:=ae i
      obtain rfl:=ae h
      exact aC (aN [(vI 5)] ⟨rfl,trivial⟩)
     ·refine ax rfl B (ak ?_)
      obtain ⟨Æ,j,a⟩:=bind_some a
      refine aR [(0,(vL Campaign.enc b)),(4,(.ref o 0 0)),(9,(vL Campaign.enc b)),(10,(vI (b.length:Int))),(11,(vI (f:Int))),(32,(vB Æ))] [(o,some (.cells 8 (Campaign.v e)))] ?_ ?_
      ·refine bg (aa (vI (f:Int)) (aa (vB (decide ((f:Int)>0))) ?_))
       rcases aj j with⟨C,j⟩|⟨C,j⟩
       ·refine aH rfl C wz (aK Lh rfl 0 rfl wa (aI 4 0 (.inr (by kernel_rfl)) (λ_ _ ag=>trivial) sz9 ag9 rfl rfl (vS e.Key) rfl wa (aL (vL Campaign.enc b) wa rfl (aL (vI (f:Int)) wa rfl (aL (vI (w64 ((f:Int)-1))) wa rfl ?_)))))
        obtain ⟨t,Z,j⟩:=bind_some j
        refine dC RN rfl rfl Z rfl wa (qh Lh rfl (Campaign.enc t) rfl rfl wa (bE sz9 ag9 rfl (vS t.Key) rfl wa (aL (vB (sLe e.Key t.Key)) wa rfl (aa (vB (sLe e.Key t.Key)) (aa (vB (sLe e.Key t.Key)) (af ?_))))))
        obtain rfl:=ae j
        exact cu
       ·refine aH rfl C wz (ah (ah (ah (ah (ah (ah (ah (ah (ah (aa (vB false) (aa (vB false) (af ?_))))))))))))
        obtain rfl:=ae j
        exact cu
      ·rintro ⟨⟩ _ M w l m
       refine aO _ l m ?_
       rcases aj a with⟨E,a⟩|⟨E,a⟩
       ·refine ay rfl E (ai (aa (vI 7) (af ?_)))
        obtain rfl:=ae a
        obtain rfl:=ae i
        obtain rfl:=ae h
        exact aC (aN [(vI 7)] ⟨rfl,trivial⟩)
       ·refine ax rfl E (ak ?_)
        obtain ⟨Ç,c,a⟩:=bind_some a
        refine aR [(0,(vL Campaign.enc b)),(4,(.ref o 0 0)),(9,(vL Campaign.enc b)),(10,(vI (b.length:Int))),(11,(vI (f:Int))),(46,(vB Ç))] [(o,some (.cells 8 (Campaign.v e)))] ?_ ?_
        ·refine au (aK Be rfl 2 rfl wz (aI 0 0 il ft vP DZ rfl rfl (.d (.agg (Window.enc e.Time))) rfl wz ?_))
         obtain ⟨Â,T,c⟩:=bind_some c
         refine aB (CX T) rfl hb139 rfl rfl rfl rfl wz (aa (vB (!Â)) ?_)
         rcases aj c with⟨F,c⟩|⟨F,c⟩
         ·refine aH rfl F wz (ah (ah (ah (aa (vB true) (aa (vB true) (ah (ah (ah (aa (vB true) (aa (vB true) (ah (ah (ah (aa (vB true) (aa (vB true) (af ?_))))))))))))))))
          obtain rfl:=ae c
          exact cu
         ·refine aH rfl F wz (aK LM rfl 5 rfl wa (aI 0 0 il ft sz3 ag3 rfl rfl (vI e.Goal) rfl wa ?_))
          obtain ⟨Ã,U,c⟩:=bind_some c
          refine aB (bf U) rfl qc rfl rfl rfl rfl wa (aa (vB Ã) ?_)
          rcases aj c with⟨G,c⟩|⟨G,c⟩
          ·refine aH rfl G wz (ah (ah (ah (aa (vB true) (aa (vB true) (ah (ah (ah (aa (vB true) (aa (vB true) (af ?_)))))))))))
           obtain rfl:=ae c
           exact cu
          ·refine aH rfl G wz (aK pl117_5 rfl 6 rfl wa (aI 0 0 il ft sz3 ag3 rfl rfl (vI e.Most) rfl wa ?_))
           obtain ⟨Ä,W,c⟩:=bind_some c
           refine aB (bf W) rfl qc rfl rfl rfl rfl wa (aa (vB Ä) ?_)
           rcases aj c with⟨H,c⟩|⟨H,c⟩
           ·refine aH rfl H wz (ah (ah (ah (aa (vB true) (aa (vB true) (af ?_))))))
            obtain rfl:=ae c
            exact cu
           ·refine aH rfl H wz (aK pl117_6 rfl 7 rfl wa (aI 0 0 il ft sz3 ag3 rfl rfl (vI e.Cents) rfl wa ?_))
            obtain ⟨N,X,c⟩:=bind_some c
            refine aB (bf X) rfl qc rfl rfl rfl rfl wa (aa (vB N) (aa (vB N) (af ?_)))
            obtain rfl:=ae c
            exact cu
        ·rintro ⟨⟩ _ M w l m
         refine aO _ l m ?_
         rcases aj a with⟨I,a⟩|⟨I,a⟩
         ·refine ay rfl I (ai (aa (vI 1) (af ?_)))
          obtain rfl:=ae a
          obtain rfl:=ae i
          obtain rfl:=ae h
          exact aC (aN [(vI 1)] ⟨rfl,trivial⟩)
         ·refine ax rfl I (av (ai (aK pl117_3 rfl 4 rfl wz (aI 0 0 il ft QB QK rfl rfl (vL eS e.Tags) rfl wz ?_))))
          obtain ⟨p,Y,a⟩:=bind_some a
          refine aB (AX Y) rfl hb140 rfl rfl rfl rfl wz (aa (vI p) (af (ai (aa (vI p) (aa (vB (p != 0)) (af ?_))))))
          rcases aj a with⟨J,a⟩|⟨J,a⟩
          ·refine ay rfl J (ai (aa (vI p) (aa (vI p) (af ?_))))
           obtain rfl:=ae a
           obtain rfl:=ae i
           obtain rfl:=ae h
           exact aC (aN [(vI p)] ⟨rfl,trivial⟩)
          ·refine ax rfl J (av (au (dH (bz n O) wz rfl (aa (vI ((f+1:Nat):Int)) (af ?_)))))
           obtain rfl:=ae a
           exact aV (f+1,L,()) ⟨i,aX n⟩ (ls_ _) rfl (aG rfl)
  ·rintro q P M w l m
   subst P
   refine aO _ l m (ai (aa (vI 0) (af ?_)))
   obtain rfl:=ae h
   exact aC (aN [(vI 0)] ⟨rfl,trivial⟩)
theorem HY {a:Campaign} {c:Int} {r:Int} (b:xH a c=some r) :
  FnM Tryz.prog 91 [(.d (.agg (Campaign.enc a))),(vI c)] [] (vI r) []:=by
 refine FnM.of_wH ⟨Tryz.prog,35,[],[]⟩ rfl Tryz.func91 rfl rfl (lb_ rfl) (by kernel_rfl) ?_
 unfold xH at b
 refine ai (ib 0 (.inl rfl) (Campaign.v a) rfl rfl wz (λi=>aa (vI 0) (af (ak (aM (ai (aa (vI c) (aK Be rfl 2 rfl wz (aK pG rfl 2 rfl wz (aI 0 0 il ft sz3 ag3 rfl rfl (vI a.Time.From) rfl wz (aa (vB (decide (c<a.Time.From))) (aa (vB (decide (c<a.Time.From))) (af ?_)))))))))))))
 rcases aj b with⟨e,b⟩|⟨e,b⟩
 ·refine ay rfl e (ai (aa (vI 0) (af ?_)))
  obtain rfl:=ae b
  exact aC (aN [(vI 0)] ⟨rfl,trivial⟩)
 ·refine ax rfl e (ai (aa (vI c) (aK Be rfl 2 rfl wz (aK o7 rfl 3 rfl wz (aI 0 0 il ft sz3 ag3 rfl rfl (vI a.Time.To) rfl wz (aa (vB (decide (c>=a.Time.To))) (aa (vB (decide (c>=a.Time.To))) (af ?_))))))))
  rcases aj b with⟨f,b⟩|⟨f,b⟩
  ·refine ay rfl f (ai (aK LM rfl 5 rfl wz (aI 0 0 il ft sz3 ag3 rfl rfl (vI a.Goal) rfl wz (aa (vI a.Goal) (af ?_)))))
   obtain rfl:=ae b
   exact aC (aN [(vI a.Goal)] ⟨rfl,trivial⟩)
  ·refine ax rfl f (av (ai (aK LM rfl 5 rfl wz (aI 0 0 il ft sz3 ag3 rfl rfl (vI a.Goal) rfl wz (aa (vI c) (aK Be rfl 2 rfl wz (aK pG rfl 2 rfl wz (aI 0 0 il ft sz3 ag3 rfl rfl (vI a.Time.From) rfl wz (aa (vI (w64 (c-a.Time.From))) (aa (vI (w64 (a.Goal*(w64 (c-a.Time.From))))) (aK Be rfl 2 rfl wz (aK o7 rfl 3 rfl wz (aI 0 0 il ft sz3 ag3 rfl rfl (vI a.Time.To) rfl wz (aK Be rfl 2 rfl wz (aK pG rfl 2 rfl wz (aI 0 0 il ft sz3 ag3 rfl rfl (vI a.Time.From) rfl wz (aa (vI (w64 (a.Time.To-a.Time.From))) ?_)))))))))))))))))
   obtain ⟨g,h,b⟩:=bind_some b
   refine PX rfl rfl h wz (aa (vI g) (af (aO (H0:=([(i,some (.cells 8 (Campaign.v a)))]:Hp)) ([(4,(vI g))]:SL_) (by kernel_rfl) (AC (by kernel_rfl)) ?_)))
   obtain rfl:=ae b
   exact aC (aN [(vI g)] ⟨rfl,trivial⟩)
theorem HZ {b:Campaign} {e:Int} {r:Int×Int} (a:uF b e=some r) :
  FnM Tryz.prog 55 [(.d (.agg (Campaign.enc b))),(vI e)] [] (.tup [(vI r.1),(vI r.2)]) []:=by
 refine FnM.of_wH ⟨Tryz.prog,19,[],[]⟩ rfl Tryz.func55 rfl rfl (lb_ rfl) (by kernel_rfl) ?_
 unfold uF at a
 refine ai (ib 0 (.inl rfl) (Campaign.v b) rfl rfl wz (λm=>aa (vI 0) (aa (vI 0) (af (ak (ai (aI 0 0 il ft PE UH rfl rfl (.d (.agg (Campaign.enc b))) rfl wz (eu (([b]:List Campaign).map Campaign.enc) RN ez155 rfl rfl rfl rfl rfl wz ?_))))))))
 obtain ⟨c,j,a⟩:=bind_some a
 refine aB (xu j) rfl hb90 rfl rfl rfl rfl wz (aa (vI c) (af (ai (aa (vI c) (aa (vB (c != 0)) (af ?_))))))
 rcases aj a with⟨f,a⟩|⟨f,a⟩
 ·refine ay rfl f (ai (aa (vI c) (aa (vI 0) (aa (vI c) (af ?_)))))
  obtain rfl:=ae a
  exact aC (aN [(vI 0),(vI c)] ⟨rfl,⟨rfl,trivial⟩⟩)
 ·refine ax rfl f (av (ak (ai (aa (vI e) ?_))))
  obtain ⟨l,k,a⟩:=bind_some a
  refine aB (iH k) rfl KV rfl rfl rfl rfl wz (aa (vB (!l)) (af ?_))
  rcases aj a with⟨g,a⟩|⟨g,a⟩
  ·refine ay rfl g (ai (aa (vI 0) (aa (vI 1) (af ?_))))
   obtain rfl:=ae a
   exact aC (aN [(vI 0),(vI 1)] ⟨rfl,⟨rfl,trivial⟩⟩)
  ·refine ax rfl g (av (ai (aI 0 0 il ft PE UH rfl rfl (.d (.agg (Campaign.enc b))) rfl wz (aa (vI e) ?_))))
   obtain ⟨h,i,a⟩:=bind_some a
   refine aB (HY i) rfl hb91 rfl rfl rfl rfl wz (aa (vI h) (aa (vI 0) (af ?_)))
   obtain rfl:=ae a
   exact aC (aN [(vI h),(vI 0)] ⟨rfl,⟨rfl,trivial⟩⟩)
theorem Hu {d:(List Beat)} {f:ByteArray} {e:Int} {g:Bool} {r:Int×Int} (a:uq d f e g=some r) :
  FnM Tryz.prog 92 [(vL Beat.enc d),(vS f),(vI e),(vB g)] [] (.tup [(vI r.1),(vI r.2)]) []:=by
 refine FnM.of_wH ⟨Tryz.prog,30,[],[]⟩ rfl Tryz.func92 rfl rfl (lb_ rfl) (by kernel_rfl) ?_
 unfold uq at a
 refine ai (aa (vI 0) (aa (vI 0) (af (ak (ai (aa (vL Beat.enc d) ?_))))))
 obtain ⟨c,n,a⟩:=bind_some a
 refine aB (vg n) rfl hb34 rfl rfl rfl rfl wz (aa (vI c) (af (ai (aa (vI c) (aa (vB (c != 0)) (af ?_))))))
 rcases aj a with⟨j,a⟩|⟨j,a⟩
 ·refine ay rfl j (ai (aa (vI c) (aa (vI 0) (aa (vI c) (af ?_)))))
  obtain rfl:=ae a
  exact aC (aN [(vI 0),(vI c)] ⟨rfl,⟨rfl,trivial⟩⟩)
 ·refine ax rfl j (av (ak (ai (aa (vS f) ?_))))
  obtain ⟨q,o,a⟩:=bind_some a
  refine aB (eU o) rfl CO rfl rfl rfl rfl wz (aa (vB (!q)) (af ?_))
  rcases aj a with⟨h,a⟩|⟨h,a⟩
  ·refine ay rfl h (ai (aa (vI 0) (aa (vI 5) (af ?_))))
   obtain rfl:=ae a
   exact aC (aN [(vI 0),(vI 5)] ⟨rfl,⟨rfl,trivial⟩⟩)
  ·refine ax rfl h (av (ak (ai (aa (vI e) ?_))))
   obtain ⟨p,k,a⟩:=bind_some a
   refine aB (iH k) rfl KV rfl rfl rfl rfl wz (aa (vB (!p)) (af ?_))
   rcases aj a with⟨i,a⟩|⟨i,a⟩
   ·refine ay rfl i (ai (aa (vI 0) (aa (vI 1) (af ?_))))
    obtain rfl:=ae a
    exact aC (aN [(vI 0),(vI 1)] ⟨rfl,⟨rfl,trivial⟩⟩)
   ·refine ax rfl i (av (ai (aa (vL Beat.enc d) (aa (vS f) (aa (vB g) ?_)))))
    obtain ⟨s,l,a⟩:=bind_some a
    refine aB (yI l) rfl hb68 rfl rfl rfl rfl wz (aa (vI e) ?_)
    obtain ⟨b,m,a⟩:=bind_some a
    refine aB (zM m) rfl hb69 rfl rfl rfl rfl wz (aa (vI b.1) (aa (vI b.2) (aa (vI b.1) (aa (vI b.2) (af ?_)))))
    obtain rfl:=ae a
    exact aC (aN [(vI b.1),(vI b.2)] ⟨rfl,⟨rfl,trivial⟩⟩)
theorem Gv {d:(List Beat)} {e:ByteArray} {c:Int} {r:Int×Int} (b:uf d e c=some r) :
  FnM Tryz.prog 56 [(vL Beat.enc d),(vS e),(vI c)] [] (.tup [(vI r.1),(vI r.2)]) []:=by
 refine FnM.of_wH ⟨Tryz.prog,14,[],[]⟩ rfl Tryz.func56 rfl rfl (lb_ rfl) (by kernel_rfl) ?_
 unfold uf at b
 refine ai (aa (vI 0) (aa (vI 0) (af (ai (aa (vL Beat.enc d) (aa (vS e) (aa (vI c) ?_)))))))
 obtain ⟨a,f,b⟩:=bind_some b
 refine aB (Hu f) rfl hb92 rfl rfl rfl rfl wz (aa (vI a.1) (aa (vI a.2) (aa (vI a.1) (aa (vI a.2) (af ?_)))))
 obtain rfl:=ae b
 exact aC (aN [(vI a.1),(vI a.2)] ⟨rfl,⟨rfl,trivial⟩⟩)
theorem CJ {a:Alert} {r:Int} (c:nK a=some r) :
  FnM Tryz.prog 202 [(.d (.agg (Alert.enc a)))] [] (vI r) []:=by
 refine FnM.of_wH ⟨Tryz.prog,48,[],[]⟩ rfl Tryz.func202 rfl rfl (lb_ rfl) (by kernel_rfl) ?_
 unfold nK at c
 refine ai (ib 0 (.inl rfl) (Alert.v a) rfl rfl wz (λj=>aa (vI 0) (af (ak (ai (aK F9 rfl 3 rfl wz (aI 0 0 il ft QB QK rfl rfl (vL eS a.Refs) rfl wz (bA vk rfl wz (aa (vB (decide ((a.Refs.length:Int)>20))) (af ?_))))))))))
 rcases aj c with⟨u,c⟩|⟨u,c⟩
 ·refine ay rfl u (ai (aa (vI 2) (af ?_)))
  obtain rfl:=ae c
  exact aC (aN [(vI 2)] ⟨rfl,trivial⟩)
 ·refine ax rfl u (av (ak (ai (aK F9 rfl 3 rfl wz (aI 0 0 il ft QB QK rfl rfl (vL eS a.Refs) rfl wz (bA vk rfl wz (aa (vI 0) (af ?_))))))))
  obtain ⟨I,w,c⟩:=bind_some c
  obtain ⟨E,w⟩:=aY w
  refine bN (λ(l:Unit)=>[(1,(.ref j 0 0))]) (λ(l:Unit)=>[(j,some (.cells 9 (Alert.v a)))]) (λ(e:Nat)=>(λ(l:Unit)=>[(1,(.ref j 0 0)),(10,(vL eS a.Refs)),(11,(vI (a.Refs.length:Int))),(12,(vI (e:Int)))])) (λk x s=>kQ a k x s) I a.Refs () w rfl (aG rfl) ?_ ?_
  ·rintro ⟨e,A,l⟩ ⟨g,i⟩
   dsimp only at g i
   cases A with
   | nil =>
    obtain rfl:=ae g
    refine ai (aa (vB (decide ((e:Int)<(a.Refs.length:Int)))) (af ?_))
    refine ak (ax rfl (drop_nil i) (aU ?_))
    exact aW (l) rfl rfl (aG rfl)
   | cons f A =>
    obtain ⟨L,b,g⟩:=bind_some g
    refine ai (aa (vB (decide ((e:Int)<(a.Refs.length:Int)))) (af ?_))
    refine ak (ay rfl (bu i) (av ?_))
    unfold kQ at b
    refine ak (aM (ai (aa (vI (e:Int)) (dC rF rfl rfl (bI i) rfl wz (bE sz9 ag9 rfl (vS f) rfl wz (aa (vI (e:Int)) (aa (vS f) (af (aM (ai (aa (vS f) ?_)))))))))))
    obtain ⟨B,G,b⟩:=bind_some b
    refine aB (eU G) rfl CO rfl rfl rfl rfl wz (aa (vB (!B)) (aa (vB (!B)) (af ?_)))
    rcases aj b with⟨n,b⟩|⟨n,b⟩
    ·refine ay rfl n (ai (aa (vI 5) (af ?_)))
     obtain rfl:=ae b
     obtain rfl:=ae g
     obtain rfl:=ae c
     exact aC (aN [(vI 5)] ⟨rfl,trivial⟩)
    ·refine ax rfl n (ak ?_)
     obtain ⟨K,h,b⟩:=bind_some b
     refine aR [(1,(.ref j 0 0)),(4,(vS f)),(10,(vL eS a.Refs)),(11,(vI (a.Refs.length:Int))),(12,(vI (e:Int))),(21,(vB K))] [(j,some (.cells 9 (Alert.v a)))] ?_ ?_
     ·refine au (aa (vI (e:Int)) (aa (vB (decide ((e:Int)>0))) ?_))
      rcases aj h with⟨o,h⟩|⟨o,h⟩
      ·refine aH rfl o wz (aL (vS f) wa rfl (aK F9 rfl 3 rfl wa (aI 0 0 il ft QB QK rfl rfl (vL eS a.Refs) rfl wa (aL (vI (e:Int)) wa rfl (aL (vI (w64 ((e:Int)-1))) wa rfl ?_)))))
       obtain ⟨m,H,h⟩:=bind_some h
       refine dC rF rfl rfl H rfl wa (bE sz9 ag9 rfl (vS m) rfl wa (aL (vB (sLe f m)) wa rfl (aa (vB (sLe f m)) (aa (vB (sLe f m)) (af ?_)))))
       obtain rfl:=ae h
       exact cu
      ·refine aH rfl o wz (ah (ah (ah (ah (ah (ah (ah (ah (aa (vB false) (aa (vB false) (af ?_)))))))))))
       obtain rfl:=ae h
       exact cu
     ·rintro ⟨⟩ _ J C y z
      refine aO _ y z ?_
      rcases aj b with⟨p,b⟩|⟨p,b⟩
      ·refine ay rfl p (ai (aa (vI 7) (af ?_)))
       obtain rfl:=ae b
       obtain rfl:=ae g
       obtain rfl:=ae c
       exact aC (aN [(vI 7)] ⟨rfl,trivial⟩)
      ·refine ax rfl p (ai (aa (vS f) (aK BG rfl 0 rfl wz (aI 0 0 il ft sz9 ag9 rfl rfl (vS a.Id) rfl wz (aa (vB (sEq f a.Id)) (aa (vB (sEq f a.Id)) (af ?_)))))))
       rcases aj b with⟨q,b⟩|⟨q,b⟩
       ·refine ay rfl q (ai (aa (vI 14) (af ?_)))
        obtain rfl:=ae b
        obtain rfl:=ae g
        obtain rfl:=ae c
        exact aC (aN [(vI 14)] ⟨rfl,trivial⟩)
       ·refine ax rfl q (av (au (dH (bz i E) wz rfl (aa (vI ((e+1:Nat):Int)) (af ?_)))))
        obtain rfl:=ae b
        exact aV (e+1,A,()) ⟨g,aX i⟩ (ls_ _) rfl (aG rfl)
  ·rintro l F J C y z
   subst F
   refine aO _ y z (ak (ai (aK Kl rfl 2 rfl wz (aI 0 0 il ft sz3 ag3 rfl rfl (vI a.Kind) rfl wz (aa (vB (a.Kind==1)) (aK F9 rfl 3 rfl wz (aI 0 0 il ft QB QK rfl rfl (vL eS a.Refs) rfl wz (bA vk rfl wz (aa (vB ((a.Refs.length:Int)==0)) (SF un4 rfl rfl wz (af ?_)))))))))))
   rcases aj c with⟨t,c⟩|⟨t,c⟩
   ·refine ay rfl t (ai (aa (vI 3) (af ?_)))
    obtain rfl:=ae c
    exact aC (aN [(vI 3)] ⟨rfl,trivial⟩)
   ·refine ax rfl t (av (ai (aa (vI 0) (af ?_))))
    obtain rfl:=ae c
    exact aC (aN [(vI 0)] ⟨rfl,trivial⟩)
theorem vC {x0:ByteArray} {r:Bool} (a:lZ x0=some r) :
  FnM Tryz.prog 218 [(vS x0)] [] (vB r) [] :=
 Uu rfl Tryz.utf8_ValidString QD a
theorem BN {x0:ByteArray} {x1:ByteArray} {r:Bool} (a:strings_Contains x0 x1=some r) :
  FnM Tryz.prog 219 [(vS x0),(vS x1)] [] (vB r) [] :=
 NA Tryz.strings_Contains MZ a
theorem GA {a:ByteArray} {r:Bool} (f:tX a=some r) :
  FnM Tryz.prog 203 [(vS a)] [] (vB r) []:=by
 refine FnM.of_wH ⟨Tryz.prog,33,[],[]⟩ rfl Tryz.func203 rfl rfl (lb_ rfl) (by kernel_rfl) ?_
 unfold tX at f
 refine ai (aa (vB false) (af (ak (ai (aa (vI 0) (af ?_))))))
 obtain ⟨H,p,f⟩:=bind_some f
 obtain ⟨G,p⟩:=bv p
 refine cB (λ(c:Int)=>[(0,(vS a))]) (λ(c:Int)=>[]) (λ(j:Nat)=>(λ(c:Int)=>[(0,(vS a)),(3,(vI c))])) (λs=>rE a s) H G 0 p rfl (aG rfl) ?_ ?_
 ·rintro ⟨j,c⟩ g
  dsimp only at g
  cases j with
  | zero=>cases g
  | succ j =>
   obtain ⟨J,d,g⟩:=bind_some g
   unfold rE at d
   refine ak (ai (aa (vI c) (aa (vS a) (Cj un9 rfl wz (aa (vB (decide (c<(a.size:Int)))) (af ?_))))))
   rcases aj d with⟨k,d⟩|⟨k,d⟩
   ·refine ay rfl k (av (ak (aM (ak ?_))))
    obtain ⟨I,e,d⟩:=bind_some d
    refine aR [(0,(vS a)),(3,(vI c)),(19,(vB I))] [] ?_ ?_
    ·refine au (aa (vS a) (aa (vI c) ?_))
     obtain ⟨y,E,e⟩:=bind_some e
     refine zg un9 rfl rfl E wz (aa (vB (decide ((y.toNat:Int)<32))) ?_)
     rcases aj e with⟨l,e⟩|⟨l,e⟩
     ·refine aH rfl l wz (ah (ah (ah (ah (aa (vB true) (af ?_))))))
      obtain rfl:=ae e
      exact cu
     ·refine aH rfl l wz (aL (vS a) wa rfl (aL (vI c) wa rfl ?_))
      obtain ⟨u,F,e⟩:=bind_some e
      refine zg un9 rfl rfl F wa (aL (vB ((u.toNat:Int)==127)) wa rfl (aa (vB ((u.toNat:Int)==127)) (af ?_)))
      obtain rfl:=ae e
      exact cu
    ·rintro ⟨⟩ _ w t h i
     refine aO _ h i ?_
     rcases aj d with⟨m,d⟩|⟨m,d⟩
     ·refine ay rfl m (ai (aa (vB false) (af ?_)))
      obtain rfl:=ae d
      obtain rfl:=ae g
      obtain rfl:=ae f
      exact aC (aN [(vB false)] ⟨rfl,trivial⟩)
     ·refine ax rfl m (av (au (aa (vI c) (aa (vI (w64 (c+1))) (aa (vI (w64 (c+1))) (af ?_))))))
      obtain rfl:=ae d
      exact aV (j,(w64 (c+1))) g (ls_ _) rfl (aG rfl)
   ·refine ax rfl k (aU ?_)
    obtain rfl:=ae d
    obtain rfl:=ae g
    exact aW (c) rfl rfl (aG rfl)
 ·rintro c z w t h i
  subst z
  refine aO _ h i (ak ?_)
  obtain ⟨x,b,f⟩:=bind_some f
  refine aR [(2,(vB x))] [] ?_ ?_
  ·refine au (aa (vS a) ?_)
   obtain ⟨K,A,b⟩:=bind_some b
   refine aB (vC A) rfl hb218 rfl rfl rfl rfl wz ?_
   rcases aj b with⟨n,b⟩|⟨n,b⟩
   ·refine aH rfl n wz (aL (vS a) wa rfl ?_)
    obtain ⟨v,B,b⟩:=bind_some b
    refine aB (zC B) rfl hb97 rfl rfl rfl rfl wa (aL (vS a) wa rfl (aL (vB (sEq v a)) wa rfl (aa (vB (sEq v a)) ?_)))
    rcases aj b with⟨o,b⟩|⟨o,b⟩
    ·refine aH rfl o wz (aL (vS a) wa rfl ?_)
     obtain ⟨q,C,b⟩:=bind_some b
     refine aB (BN C) rfl hb219 rfl rfl rfl rfl wa (aL (vB (!q)) wa rfl (aa (vB (!q)) (aa (vB (!q)) (af ?_))))
     obtain rfl:=ae b
     exact cu
    ·refine aH rfl o wz (ah (ah (ah (aa (vB false) (aa (vB false) (af ?_))))))
     obtain rfl:=ae b
     exact cu
   ·refine aH rfl n wz (ah (ah (ah (ah (aa (vB false) (aa (vB false) (ah (ah (ah (aa (vB false) (aa (vB false) (af ?_))))))))))))
    obtain rfl:=ae b
    exact cu
  ·rintro ⟨⟩ _ w t h i
   refine aO _ h i ?_
   obtain rfl:=ae f
   exact aC (aN [(vB x)] ⟨rfl,trivial⟩)
theorem BO {b:Alert} {r:Int} (a:mE b=some r) :
  FnM Tryz.prog 181 [(.d (.agg (Alert.enc b)))] [] (vI r) []:=by
 refine FnM.of_wH ⟨Tryz.prog,92,[],[]⟩ rfl Tryz.func181 rfl rfl (lb_ rfl) (by kernel_rfl) ?_
 unfold mE at a
 refine ai (ib 0 (.inl rfl) (Alert.v b) rfl rfl wz (λh=>aa (vI 0) (af (ak (ak ?_)))))
 obtain ⟨Ê,f,a⟩:=bind_some a
 refine aR [(1,(.ref h 0 0)),(17,(vB Ê))] [(h,some (.cells 9 (Alert.v b)))] ?_ ?_
 ·refine au (aK BG rfl 0 rfl wz (aI 0 0 il ft sz9 ag9 rfl rfl (vS b.Id) rfl wz ?_))
  obtain ⟨È,Á,f⟩:=bind_some f
  refine aB (eU Á) rfl CO rfl rfl rfl rfl wz (aa (vB (!È)) ?_)
  rcases aj f with⟨K,f⟩|⟨K,f⟩
  ·refine aH rfl K wz (ah (ah (ah (ah (aa (vB true) (af ?_))))))
   obtain rfl:=ae f
   exact cu
  ·refine aH rfl K wz (aK pl120_1 rfl 1 rfl wa (aI 0 0 il ft sz9 ag9 rfl rfl (vS b.Sender) rfl wa ?_))
   obtain ⟨P,Â,f⟩:=bind_some f
   refine aB (eU Â) rfl CO rfl rfl rfl rfl wa (aL (vB (!P)) wa rfl (aa (vB (!P)) (af ?_)))
   obtain rfl:=ae f
   exact cu
 ·rintro ⟨⟩ _ N t i j
  refine aO _ i j ?_
  rcases aj a with⟨u,a⟩|⟨u,a⟩
  ·refine ay rfl u (ai (aa (vI 5) (af ?_)))
   obtain rfl:=ae a
   exact aC (aN [(vI 5)] ⟨rfl,trivial⟩)
  ·refine ax rfl u (av (ak (ai (aK Kl rfl 2 rfl wz (aI 0 0 il ft sz3 ag3 rfl rfl (vI b.Kind) rfl wz ?_)))))
   obtain ⟨Î,T,a⟩:=bind_some a
   refine aB (bf T) rfl qc rfl rfl rfl rfl wz (af ?_)
   rcases aj a with⟨w,a⟩|⟨w,a⟩
   ·refine ay rfl w (ai (aa (vI 4) (af ?_)))
    obtain rfl:=ae a
    exact aC (aN [(vI 4)] ⟨rfl,trivial⟩)
   ·refine ax rfl w (av (ak (ai (aI 0 0 il ft zD Dp rfl rfl (.d (.agg (Alert.enc b))) rfl wz ?_))))
    obtain ⟨o,U,a⟩:=bind_some a
    refine aB (CJ U) rfl hb202 rfl rfl rfl rfl wz (aa (vI o) (af (ai (aa (vI o) (aa (vB (o != 0)) (af ?_))))))
    rcases aj a with⟨y,a⟩|⟨y,a⟩
    ·refine ay rfl y (ai (aa (vI o) (aa (vI o) (af ?_))))
     obtain rfl:=ae a
     exact aC (aN [(vI o)] ⟨rfl,trivial⟩)
    ·refine ax rfl y (av (ak (ak ?_)))
     obtain ⟨É,c,a⟩:=bind_some a
     refine aR [(1,(.ref h 0 0)),(45,(vB É))] [(h,some (.cells 9 (Alert.v b)))] ?_ ?_
     ·refine au (aK DW rfl 4 rfl wz (aI 0 0 il ft sz3 ag3 rfl rfl (vI b.At) rfl wz ?_))
      obtain ⟨Ä,W,c⟩:=bind_some c
      refine aB (iH W) rfl KV rfl rfl rfl rfl wz (aa (vB (!Ä)) ?_)
      rcases aj c with⟨z,c⟩|⟨z,c⟩
      ·refine aH rfl z wz (ah (ah (ah (ah (ah (ah (ah (ah (ah (aa (vB true) (aa (vB true) (ah (ah (ah (aa (vB true) (af ?_))))))))))))))))
       obtain rfl:=ae c
       exact cu
      ·refine aH rfl z wz (aK pl120_5 rfl 5 rfl wa (aI 0 0 il ft sz3 ag3 rfl rfl (vI b.Until) rfl wa (aK DW rfl 4 rfl wa (aI 0 0 il ft sz3 ag3 rfl rfl (vI b.At) rfl wa (aL (vI (w64 (b.At+1))) wa rfl (aK DW rfl 4 rfl wa (aI 0 0 il ft sz3 ag3 rfl rfl (vI b.At) rfl wa (aL (vI (w64 (b.At+2592000000))) wa rfl ?_))))))))
       obtain ⟨Å,X,c⟩:=bind_some c
       refine aB (bf X) rfl qc rfl rfl rfl rfl wa (aa (vB Å) ?_)
       rcases aj c with⟨A,c⟩|⟨A,c⟩
       ·refine aH rfl A wz (ah (ah (ah (aa (vB true) (af ?_)))))
        obtain rfl:=ae c
        exact cu
       ·refine aH rfl A wz (aK pl120_6 rfl 6 rfl wa (aI 0 0 il ft sz3 ag3 rfl rfl (vI b.Weight) rfl wa ?_))
        obtain ⟨Æ,Y,c⟩:=bind_some c
        refine aB (bf Y) rfl qc rfl rfl rfl rfl wa (aa (vB Æ) (af ?_))
        obtain rfl:=ae c
        exact cu
     ·rintro ⟨⟩ _ N t i j
      refine aO _ i j ?_
      rcases aj a with⟨B,a⟩|⟨B,a⟩
      ·refine ay rfl B (ai (aa (vI 1) (af ?_)))
       obtain rfl:=ae a
       exact aC (aN [(vI 1)] ⟨rfl,trivial⟩)
      ·refine ax rfl B (av (ak (ai (aK Gt rfl 7 rfl wz (aI 0 0 il ft JA Jv rfl rfl (vL Rect.enc b.Areas) rfl wz (bA yo rfl wz (aa (vB (decide ((b.Areas.length:Int)>20))) (af ?_))))))))
       rcases aj a with⟨C,a⟩|⟨C,a⟩
       ·refine ay rfl C (ai (aa (vI 2) (af ?_)))
        obtain rfl:=ae a
        exact aC (aN [(vI 2)] ⟨rfl,trivial⟩)
       ·refine ax rfl C (av (ak (ai (aK Gt rfl 7 rfl wz (aI 0 0 il ft JA Jv rfl rfl (vL Rect.enc b.Areas) rfl wz (bA yo rfl wz (aa (vI 0) (af ?_))))))))
        obtain ⟨Ã,L,a⟩:=bind_some a
        obtain ⟨Q,L⟩:=aY L
        refine bN (λ(q:Unit)=>[(1,(.ref h 0 0))]) (λ(q:Unit)=>[(h,some (.cells 9 (Alert.v b)))]) (λ(n:Nat)=>(λ(q:Unit)=>[(1,(.ref h 0 0)),(51,(vL Rect.enc b.Areas)),(52,(vI (b.Areas.length:Int))),(53,(vI (n:Int)))])) (λk x s=>ma k x s) Ã b.Areas () L rfl (aG rfl) ?_ ?_
        ·rintro ⟨n,M,q⟩ ⟨m,l⟩
         dsimp only at m l
         cases M with
         | nil =>
          obtain rfl:=ae m
          refine ai (aa (vB (decide ((n:Int)<(b.Areas.length:Int)))) (af ?_))
          refine ak (ax rfl (drop_nil l) (aU ?_))
          exact aW (q) rfl rfl (aG rfl)
         | cons O M =>
          obtain ⟨Ì,g,m⟩:=bind_some m
          refine ai (aa (vB (decide ((n:Int)<(b.Areas.length:Int)))) (af ?_))
          refine ak (ay rfl (bu l) (av ?_))
          unfold ma at g
          refine ak (aM (ai (dC DR rfl rfl (bI l) rfl wz (bE tV Fz rfl (.d (.agg (Rect.enc O))) rfl wz (dA 0 (.inl rfl) L6 rfl wz (λÍ=>jw 0 il ft 1 tV rfl rfl (Rect.v O) rfl wz (af (ai (aI 0 1 il ft tV Fz rfl rfl (.d (.agg (Rect.enc O))) rfl wz ?_)))))))))
          obtain ⟨p,Z,g⟩:=bind_some g
          refine aB (u7 Z) rfl hb130 rfl rfl rfl rfl wz (aa (vI p) (af (ai (aa (vI p) (aa (vB (p != 0)) (af ?_))))))
          rcases aj g with⟨E,g⟩|⟨E,g⟩
          ·refine ay rfl E (ai (aa (vI p) (aa (vI p) (af ?_))))
           obtain rfl:=ae g
           obtain rfl:=ae m
           obtain rfl:=ae a
           exact aC (aN [(vI p)] ⟨rfl,trivial⟩)
          ·refine ax rfl E (av (au (dH (bz l Q) wz rfl (aa (vI ((n+1:Nat):Int)) (af ?_)))))
           obtain rfl:=ae g
           exact aV (n+1,M,()) ⟨m,aX l⟩ (ls_ _) rfl (aG rfl)
        ·rintro q R N t i j
         subst R
         refine aO _ i j (ai (aK Kl rfl 2 rfl wz (aI 0 0 il ft sz3 ag3 rfl rfl (vI b.Kind) rfl wz (aa (vB (b.Kind==3)) (aa (vB (b.Kind==3)) (af (ak (aM (ai (aa (vB (b.Kind==3)) (aK Gt rfl 7 rfl wz (aI 0 0 il ft JA Jv rfl rfl (vL Rect.enc b.Areas) rfl wz (bA yo rfl wz (aa (vB ((b.Areas.length:Int)==0)) (SF un4 rfl rfl wz (aa (vB (!((b.Kind==3)==((b.Areas.length:Int)==0)))) (af ?_)))))))))))))))))
         rcases aj a with⟨F,a⟩|⟨F,a⟩
         ·refine ay rfl F (ai (aa (vI 3) (af ?_)))
          obtain rfl:=ae a
          exact aC (aN [(vI 3)] ⟨rfl,trivial⟩)
         ·refine ax rfl F (ai (aK KX rfl 8 rfl wz (aI 0 0 il ft sz9 ag9 rfl rfl (vS b.Text) rfl wz (Cj un9 rfl wz (aa (vB (decide ((b.Text.size:Int)>500))) (aa (vB (decide ((b.Text.size:Int)>500))) (af ?_)))))))
          rcases aj a with⟨G,a⟩|⟨G,a⟩
          ·refine ay rfl G (ai (aa (vI 2) (af ?_)))
           obtain rfl:=ae a
           exact aC (aN [(vI 2)] ⟨rfl,trivial⟩)
          ·refine ax rfl G (ak ?_)
           obtain ⟨Ë,e,a⟩:=bind_some a
           refine aR [(78,(vB Ë))] [(h,some (.cells 9 (Alert.v b)))] ?_ ?_
           ·refine au (aK KX rfl 8 rfl wz (aI 0 0 il ft sz9 ag9 rfl rfl (vS b.Text) rfl wz ?_))
            obtain ⟨Ç,À,e⟩:=bind_some e
            refine aB (GA À) rfl hb203 rfl rfl rfl rfl wz (aa (vB (!Ç)) ?_)
            rcases aj e with⟨H,e⟩|⟨H,e⟩
            ·refine aH rfl H wz (ah (ah (ah (ah (dK (wn rfl rfl) (dK (wn rfl rfl) (ah (aa (vB true) (aa (vB true) (af ?_))))))))))
             obtain rfl:=ae e
             exact cu
            ·refine aH rfl H wz (aK KX rfl 8 rfl wa (aI 0 0 il ft sz9 ag9 rfl rfl (vS b.Text) rfl wa (aL (vB (sEq b.Text (⟨#[]⟩:ByteArray))) wa rfl ?_)))
             rcases aj e with⟨I,e⟩|⟨I,e⟩
             ·refine aH rfl I wa (aL (vB (b.Kind==3)) wa rfl (aL (vB (!(b.Kind==3))) wa rfl (aL (vB (!(b.Kind==3))) wa rfl (aa (vB (!(b.Kind==3))) (aa (vB (!(b.Kind==3))) (af ?_))))))
              obtain rfl:=ae e
              exact cu
             ·refine aH rfl I wa (ah (ah (aL (vB false) wa rfl (aa (vB false) (aa (vB false) (af ?_))))))
              obtain rfl:=ae e
              exact cu
           ·rintro ⟨⟩ _ N t i j
            refine aO _ i j ?_
            rcases aj a with⟨J,a⟩|⟨J,a⟩
            ·refine ay rfl J (ai (aa (vI 3) (af ?_)))
             obtain rfl:=ae a
             exact aC (aN [(vI 3)] ⟨rfl,trivial⟩)
            ·refine ax rfl J (av (ai (aa (vI 0) (af ?_))))
             obtain rfl:=ae a
             exact aC (aN [(vI 0)] ⟨rfl,trivial⟩)
theorem EG {b:Alert} {c:Alert} {r:Int} (a:tH b c=some r) :
  FnM Tryz.prog 182 [(.d (.agg (Alert.enc b))),(.d (.agg (Alert.enc c)))] [] (vI r) []:=by
 refine FnM.of_wH ⟨Tryz.prog,17,[],[]⟩ rfl Tryz.func182 rfl rfl (lb_ rfl) (by kernel_rfl) ?_
 unfold tH at a
 refine ai (ib 0 (.inl rfl) (Alert.v b) rfl rfl wz (λk=>ib 0 (.inl rfl) (Alert.v c) rfl rfl wz (λl=>aa (vI 0) (af (ak (bg (aK DW rfl 4 rfl wz (aI 1 0 (.inr (by kernel_rfl)) (λ_ _ ag=>trivial) sz3 ag3 rfl rfl (vI b.At) rfl wz (aK DW rfl 4 rfl wz (aI 3 1 (.inr (by kernel_rfl)) (λ_ _ ag=>⟨.inl ⟨rfl,rfl⟩,trivial⟩) sz3 ag3 rfl rfl (vI c.At) rfl wz ?_))))))))))
 obtain ⟨i,g,a⟩:=bind_some a
 refine aB (jL g) rfl Ri rfl rfl rfl rfl wz (aK BG rfl 0 rfl wz (aI 6 0 (.inr (by kernel_rfl)) (λ_ _ ag=>⟨.inl ⟨rfl,rfl⟩,⟨.inl ⟨rfl,rfl⟩,trivial⟩⟩) sz9 ag9 rfl rfl (vS b.Id) rfl wz (aK BG rfl 0 rfl wz (aI 8 1 (.inr (by kernel_rfl)) (λ_ _ ag=>⟨.inl ⟨rfl,rfl⟩,⟨.inl ⟨rfl,rfl⟩,⟨.inl ⟨rfl,rfl⟩,trivial⟩⟩⟩) sz9 ag9 rfl rfl (vS c.Id) rfl wz ?_))))
 obtain ⟨j,h,a⟩:=bind_some a
 refine aB (jG h) rfl Rm rfl rfl rfl rfl wz (eu (([i,j]:List Int).map eI) pQ zP rfl rfl rfl rfl rfl wz ?_)
 obtain ⟨e,f,a⟩:=bind_some a
 refine aB (qf f) rfl TE rfl rfl rfl rfl wz (aa (vI e) (af ?_))
 obtain rfl:=ae a
 exact aC (aN [(vI e)] ⟨rfl,trivial⟩)
theorem AY {a:(List Alert)} {r:Int} (c:lL a=some r) :
  FnM Tryz.prog 141 [(vL Alert.enc a)] [] (vI r) []:=by
 refine FnM.of_wH ⟨Tryz.prog,52,[],[]⟩ rfl Tryz.func141 rfl rfl (lb_ rfl) (by kernel_rfl) ?_
 unfold lL at c
 refine ai (aa (vI 0) (af (ak (ai (aa (vL Alert.enc a) (bA TS rfl wz (aa (vB (decide ((a.length:Int)>300))) (af ?_))))))))
 rcases aj c with⟨C,c⟩|⟨C,c⟩
 ·refine ay rfl C (ai (aa (vI 2) (af ?_)))
  obtain rfl:=ae c
  exact aC (aN [(vI 2)] ⟨rfl,trivial⟩)
 ·refine ax rfl C (av (ak (ai (aa (vL Alert.enc a) (bA TS rfl wz (aa (vI 0) (af ?_)))))))
  obtain ⟨X,G,c⟩:=bind_some c
  obtain ⟨Q,G⟩:=aY G
  refine bN (λ(w:Unit)=>[(0,(vL Alert.enc a))]) (λ(w:Unit)=>[]) (λ(e:Nat)=>(λ(w:Unit)=>[(0,(vL Alert.enc a)),(12,(vL Alert.enc a)),(13,(vI (a.length:Int))),(14,(vI (e:Int)))])) (λk x s=>jV a k x s) X a () G rfl (aG rfl) ?_ ?_
  ·rintro ⟨e,K,w⟩ ⟨i,l⟩
   dsimp only at i l
   cases K with
   | nil =>
    obtain rfl:=ae i
    refine ai (aa (vB (decide ((e:Int)<(a.length:Int)))) (af ?_))
    refine ak (ax rfl (drop_nil l) (aU ?_))
    exact aW (w) rfl rfl (aG rfl)
   | cons y K =>
    obtain ⟨O,b,i⟩:=bind_some i
    refine ai (aa (vB (decide ((e:Int)<(a.length:Int)))) (af ?_))
    refine ak (ay rfl (bu l) (av ?_))
    unfold jV at b
    refine ak (aM (ai (aa (vI (e:Int)) (dC Qc rfl rfl (bI l) rfl wz (bE zD Dp rfl (.d (.agg (Alert.enc y))) rfl wz (dA 0 (.inl rfl) z120 rfl wz (λW=>aa (vI (e:Int)) (jw 0 il ft 0 zD rfl rfl (Alert.v y) rfl wz (af (ak (ai (aI 0 0 il ft zD Dp rfl rfl (.d (.agg (Alert.enc y))) rfl wz ?_))))))))))))
    obtain ⟨p,R,b⟩:=bind_some b
    refine aB (BO R) rfl hb181 rfl rfl rfl rfl wz (aa (vI p) (af (ai (aa (vI p) (aa (vB (p != 0)) (af ?_))))))
    rcases aj b with⟨A,b⟩|⟨A,b⟩
    ·refine ay rfl A (ai (aa (vI p) (aa (vI p) (af ?_))))
     obtain rfl:=ae b
     obtain rfl:=ae i
     obtain rfl:=ae c
     exact aC (aN [(vI p)] ⟨rfl,trivial⟩)
    ·refine ax rfl A (av (ak ?_))
     obtain ⟨Z,g,b⟩:=bind_some b
     refine aR [(0,(vL Alert.enc a)),(12,(vL Alert.enc a)),(13,(vI (a.length:Int))),(14,(vI (e:Int))),(35,(vB Z))] [(W,some (.cells 9 (Alert.v y)))] ?_ ?_
     ·refine bg (aa (vI (e:Int)) (aa (vB (decide ((e:Int)>0))) ?_))
      rcases aj g with⟨B,g⟩|⟨B,g⟩
      ·refine aH rfl B wz (aL (vL Alert.enc a) wa rfl (aL (vI (e:Int)) wa rfl (aL (vI (w64 ((e:Int)-1))) wa rfl ?_)))
       obtain ⟨À,U,g⟩:=bind_some g
       refine dC Qc rfl rfl U rfl wa (bE zD Dp rfl (.d (.agg (Alert.enc À))) rfl wa (aI 8 0 (.inr (by kernel_rfl)) (λ_ _ ag=>trivial) zD Dp rfl rfl (.d (.agg (Alert.enc y))) rfl wa ?_))
       obtain ⟨M,T,g⟩:=bind_some g
       refine aB (EG T) rfl hb182 rfl rfl rfl rfl wa (aL (vB (decide (M>=0))) wa rfl (aa (vB (decide (M>=0))) (af ?_)))
       obtain rfl:=ae g
       exact cu
      ·refine aH rfl B wz (ah (ah (ah (ah (ah (ah (ah (ah (aa (vB false) (af ?_))))))))))
       obtain rfl:=ae g
       exact cu
     ·rintro ⟨⟩ _ N L q t
      refine aO _ q t ?_
      rcases aj b with⟨E,b⟩|⟨E,b⟩
      ·refine ay rfl E (ai (aa (vI 7) (af ?_)))
       obtain rfl:=ae b
       obtain rfl:=ae i
       obtain rfl:=ae c
       exact aC (aN [(vI 7)] ⟨rfl,trivial⟩)
      ·refine ax rfl E (av (au (dH (bz l Q) wz rfl (aa (vI ((e+1:Nat):Int)) (af ?_)))))
       obtain rfl:=ae b
       exact aV (e+1,K,()) ⟨i,aX l⟩ (ls_ _) rfl (aG rfl)
  ·rintro w I N L q t
   subst I
   refine aO _ q t (ai (Qw 0 (.inl rfl) wz (λu=>Nh (b':=some (bM D.str D.bool ([]:List (ByteArray×Bool)))) 0 rfl rfl (aa (.map u) (af (ak (ai (aa (vL Alert.enc a) (bA TS rfl wz (aa (vI 0) (af ?_)))))))))))
   obtain ⟨Y,H,c⟩:=bind_some c
   obtain ⟨P,H⟩:=aY H
   refine bN (λ(f:(List (ByteArray×Bool)))=>[]) (λ(f:(List (ByteArray×Bool)))=>[(u,some (bM D.str D.bool f))]) (λ(o:Nat)=>(λ(f:(List (ByteArray×Bool)))=>[(6,(.map u)),(38,(vL Alert.enc a)),(39,(vI (a.length:Int))),(40,(vI (o:Int)))])) (λk x s=>lV k x s) Y a ([]:List (ByteArray×Bool)) H rfl (aG rfl) ?_ ?_
   ·rintro ⟨o,J,f⟩ ⟨m,j⟩
    dsimp only at m j
    cases J with
    | nil =>
     obtain rfl:=ae m
     refine ai (aa (vB (decide ((o:Int)<(a.length:Int)))) (af ?_))
     refine ak (ax rfl (drop_nil j) (aU ?_))
     exact aW (f) rfl rfl (aG rfl)
    | cons h J =>
     obtain ⟨O,n,m⟩:=bind_some m
     refine ai (aa (vB (decide ((o:Int)<(a.length:Int)))) (af ?_))
     refine ak (ay rfl (bu j) (av ?_))
     unfold lV at n
     refine ak (aM (ai (dC Qc rfl rfl (bI j) rfl wz (bE zD Dp rfl (.d (.agg (Alert.enc h))) rfl wz (dA 0 (.inl rfl) z120 rfl wz (λÁ=>jw 0 il ft 1 zD rfl rfl (Alert.v h) rfl wz (af (ak (ai (aa (.map u) (aK BG rfl 0 rfl wz (aI 0 1 il ft sz9 ag9 rfl rfl (vS h.Id) rfl wz (TR (eq:=eqS) (kD:=D.str) (vD:=D.bool) (es:=f) (k:=h.Id) (z:=false) 0 0 il ft (λ_ _=>rfl) mt255 (by kernel_rfl) (by kernel_rfl) rfl rfl rfl (vB ((Oo eqS f h.Id).getD false)) rfl wz (af ?_))))))))))))))
     rcases aj n with⟨F,n⟩|⟨F,n⟩
     ·refine ay rfl F (ai (aa (vI 6) (af ?_)))
      obtain rfl:=ae n
      obtain rfl:=ae m
      obtain rfl:=ae c
      exact aC (aN [(vI 6)] ⟨rfl,trivial⟩)
     ·refine ax rfl F (av (au (aa (.map u) (aK BG rfl 0 rfl wz (aI 0 1 il ft sz9 ag9 rfl rfl (vS h.Id) rfl wz (Tc (eq:=eqS) (kD:=D.str) (vD:=D.bool) (es:=f) (k:=h.Id) (v:=true) 0 0 il ft (λ_ _=>rfl) mt255 (by kernel_rfl) rfl rfl rfl rfl wz (af (au (dH (bz j P) wz rfl (aa (vI ((o+1:Nat):Int)) (af ?_)))))))))))
      obtain rfl:=ae n
      exact aV (o+1,J,(R6 eqS f h.Id true)) ⟨m,aX j⟩ (ls_ _) rfl (aG rfl)
   ·rintro f I N L q t
    subst I
    refine aO _ q t (ai (aa (vI 0) (af ?_)))
    obtain rfl:=ae c
    exact aC (aN [(vI 0)] ⟨rfl,trivial⟩)
end Go.Proofs.YtnfojnnfidnikaeGreatDoor.Law

