/-
 The machine computes these plain functions (written by a program of ours).
-/
import Derived.Test.YtljhfffghjclfabGreatDoorFacts
import Derived.Test.YtljhfffghjclfabGreatDoorDefs
import Derived.Test.YtljhfffghjclfabGreatDoorPf5
open Go Go.Eng Go.Proofs
namespace Go.Proofs.YtljhfffghjclfabGreatDoor.Law
set_option maxRecDepth 100000
set_option linter.unusedVariables false
set_option maxHeartbeats 1000000
theorem y9 {r:Bool} (b:nH  = some r) :
  FnM Tryz.prog 10 [] [] (vB r) []:=by
 refine FnM.of_wH ⟨Tryz.prog,75,[],[]⟩ rfl Tryz.func10 rfl rfl (lb_ rfl) (by kernel_rfl) ?_
 unfold nH at b
 refine ai (aa (vB false) (af (ai (aI (.d (.agg (Rect.enc (⟨0,0,2,2⟩:Rect)))) wz (by kernel_rfl) (aI (.d (.agg (Rect.enc (⟨1,1,2,2⟩:Rect)))) wz (by kernel_rfl) (eD (([(⟨0,0,2,2⟩:Rect),(⟨1,1,2,2⟩:Rect)]:List Rect).map Rect.enc) BI QP rfl rfl rfl rfl rfl wz ?_))))))
 obtain ⟨c,t,b⟩:=bind_some b
 refine aD (EH t) rfl hb28 rfl rfl rfl rfl wz (aa (.tup [(vI c.1),(vI c.2)]) (aa (vI c.1) (aa (vI c.2) (aa (vI c.1) (aa (vI c.2) (af (ai (aI (.agg [(vS (⟨#[97]⟩:ByteArray)),(vS (⟨#[98]⟩:ByteArray)),(vI 0),(vI 0),(vI 0),(vI 1),(vI 127),.nil,(vI 1),(vI 2),(vI 0),.nil,(vB false)]) wz (by kernel_rfl) (aI (.d (.agg (Window.enc (⟨0,86400000⟩:Window)))) wz (by kernel_rfl) ?_)))))))))
 obtain ⟨e,u,b⟩:=bind_some b
 refine aD (Bn u) rfl hb29 rfl rfl rfl rfl wz (aa (.tup [(vL Window.enc e.1),(vI e.2)]) (aa (vL Window.enc e.1) (aa (vI e.2) (aa (vL Window.enc e.1) (aa (vI e.2) (af (ai (aI (.d (.agg (Window.enc (⟨0,100⟩:Window)))) wz (by kernel_rfl) (aI (.agg [(vS (⟨#[97]⟩:ByteArray)),(vS (⟨#[]⟩:ByteArray)),(vI 0),(vI 100),.nil,(vI 10),(vI 0),(vI 0)]) wz (by kernel_rfl) ?_)))))))))
 obtain ⟨f,v,b⟩:=bind_some b
 refine aD (EZ v) rfl hb30 rfl rfl rfl rfl wz (aa (.tup [(vI f.1),(vI f.2)]) (aa (vI f.1) (aa (vI f.2) (aa (vI f.1) (aa (vI f.2) (af (ai (aI (.d (.agg (Beat.enc (⟨(⟨#[112]⟩:ByteArray),0,100⟩:Beat)))) wz (by kernel_rfl) (aI (.d (.agg (Beat.enc (⟨(⟨#[112]⟩:ByteArray),1000,1300⟩:Beat)))) wz (by kernel_rfl) (eD (([(⟨(⟨#[112]⟩:ByteArray),0,100⟩:Beat),(⟨(⟨#[112]⟩:ByteArray),1000,1300⟩:Beat)]:List Beat).map Beat.enc) Pe ez84 rfl rfl rfl rfl rfl wz ?_))))))))))
 obtain ⟨g,w,b⟩:=bind_some b
 refine aD (Es w) rfl hb31 rfl rfl rfl rfl wz (aa (.tup [(vI g.1),(vI g.2)]) (aa (vI g.1) (aa (vI g.2) (aa (vI g.1) (aa (vI g.2) (af (aN (H0:=([]:Hp)) ([(1,(vI c.1)),(2,(vI c.2)),(3,(vL Window.enc e.1)),(4,(vI e.2)),(5,(vI f.1)),(6,(vI f.2)),(7,(vI g.1)),(8,(vI g.2))]:SL_) (by kernel_rfl) (ul (by kernel_rfl)) (ai (aI (.d (.agg (Rect.enc (⟨0,0,2,2⟩:Rect)))) wz (by kernel_rfl) (eD (([(⟨0,0,2,2⟩:Rect)]:List Rect).map Rect.enc) BI QP rfl rfl rfl rfl rfl wz (aI (.agg [(vS (⟨#[97]⟩:ByteArray)),(vS (⟨#[115]⟩:ByteArray)),(vI 1),.nil,(vI 0),(vI 5),(vI 1),(vL Rect.enc ([(⟨0,0,2,2⟩:Rect)]:List Rect)),(vS (⟨#[120]⟩:ByteArray))]) wz (by kernel_rfl) (dP 0 (.inl rfl) z37 rfl wz (λx=>gy 0 il ft 0 mG rfl rfl [(vS (⟨#[97]⟩:ByteArray)),(vS (⟨#[115]⟩:ByteArray)),(vI 1),.nil,(vI 0),(vI 5),(vI 1),(vL Rect.enc ([(⟨0,0,2,2⟩:Rect)]:List Rect)),(vS (⟨#[120]⟩:ByteArray))] rfl wz (af (ai (aF 0 0 il ft mG tH rfl rfl (.agg [(vS (⟨#[97]⟩:ByteArray)),(vS (⟨#[115]⟩:ByteArray)),(vI 1),.nil,(vI 0),(vI 5),(vI 1),(vL Rect.enc ([(⟨0,0,2,2⟩:Rect)]:List Rect)),(vS (⟨#[120]⟩:ByteArray))]) rfl wz (aI (.d (.agg (Post.enc (⟨(⟨#[112]⟩:ByteArray),1,1⟩:Post)))) wz (by kernel_rfl) ?_)))))))))))))))))
 obtain ⟨h,q,b⟩:=bind_some b
 refine aD (BG q) rfl hb32 rfl rfl rfl rfl wz (aa (.tup [(vB h.1),(vI h.2)]) (aa (vB h.1) (aa (vI h.2) (aa (vB h.1) (aa (vI h.2) (af (ak ?_)))))))
 obtain ⟨n,a,b⟩:=bind_some b
 refine aP [(0,(vB n))] [(x,some (.cells 9 [(vS (⟨#[97]⟩:ByteArray)),(vS (⟨#[115]⟩:ByteArray)),(vI 1),.nil,(vI 0),(vI 5),(vI 1),(vL Rect.enc ([(⟨0,0,2,2⟩:Rect)]:List Rect)),(vS (⟨#[120]⟩:ByteArray))]))] ?_ ?_
 ·refine av (aa (vI c.2) (aa (vI e.2) (aa (vI f.2) (aa (vI g.2) (aa (vI h.2) (eD (([c.2,e.2,f.2,g.2,h.2]:List Int).map eI) es122 ez122 rfl rfl rfl rfl rfl wz ?_))))))
  obtain ⟨y,s,a⟩:=bind_some a
  refine aD (Jc s) rfl hb33 rfl rfl rfl rfl wz (aa (vB (y==0)) ?_)
  rcases aj a with⟨i,a⟩|⟨i,a⟩
  ·refine aC rfl i wz (aI (vI c.1) wa rfl (aI (vB (c.1==7)) wa rfl (aa (vB (c.1==7)) ?_)))
   rcases aj a with⟨j,a⟩|⟨j,a⟩
   ·refine aC rfl j wz (aI (vL Window.enc e.1) wa rfl (bL un71 rfl wa (aI (vB ((e.1.length:Int)==1)) wa rfl (aa (vB ((e.1.length:Int)==1)) ?_))))
    rcases aj a with⟨k,a⟩|⟨k,a⟩
    ·refine aC rfl k wz (aI (vI f.1) wa rfl (aI (vB (f.1==5)) wa rfl (aa (vB (f.1==5)) ?_)))
     rcases aj a with⟨l,a⟩|⟨l,a⟩
     ·refine aC rfl l wz (aI (vI g.1) wa rfl (aI (vB (g.1==500)) wa rfl (aa (vB (g.1==500)) ?_)))
      rcases aj a with⟨m,a⟩|⟨m,a⟩
      ·refine aC rfl m wz (aI (vB h.1) wa rfl (aa (vB h.1) (aa (vB h.1) (af ?_))))
       obtain rfl:=ae a
       exact cu
      ·refine aC rfl m wz (ah (aa (vB false) (aa (vB false) (af ?_))))
       obtain rfl:=ae a
       exact cu
     ·refine aC rfl l wz (ah (ah (aa (vB false) (aa (vB false) (ah (aa (vB false) (aa (vB false) (af ?_))))))))
      obtain rfl:=ae a
      exact cu
    ·refine aC rfl k wz (ah (ah (aa (vB false) (aa (vB false) (ah (ah (aa (vB false) (aa (vB false) (ah (aa (vB false) (aa (vB false) (af ?_))))))))))))
     obtain rfl:=ae a
     exact cu
   ·refine aC rfl j wz (ah (ah (ah (aa (vB false) (aa (vB false) (ah (ah (aa (vB false) (aa (vB false) (ah (ah (aa (vB false) (aa (vB false) (ah (aa (vB false) (aa (vB false) (af ?_)))))))))))))))))
    obtain rfl:=ae a
    exact cu
  ·refine aC rfl i wz (ah (ah (aa (vB false) (aa (vB false) (ah (ah (ah (aa (vB false) (aa (vB false) (ah (ah (aa (vB false) (aa (vB false) (ah (ah (aa (vB false) (aa (vB false) (ah (aa (vB false) (aa (vB false) (af ?_)))))))))))))))))))))
   obtain rfl:=ae a
   exact cu
 ·rintro ⟨⟩ _ A z o p
  refine aN _ o p ?_
  obtain rfl:=ae b
  exact ay (aK [(vB n)] ⟨rfl,trivial⟩)
theorem wD {l:(List Int)} {r:Bool} (a:jN l=some r) :
  FnM Tryz.prog 3 [(vL eI l)] [] (vB r) []:=by
 refine FnM.of_wH ⟨Tryz.prog,67,[],[]⟩ rfl Tryz.func3 rfl rfl (lb_ rfl) (by kernel_rfl) ?_
 unfold jN at a
 refine ai (aa (vB false) (af (ai (aa (vL eI l) (aI (.d (.agg (Stream.enc (⟨l,0⟩:Stream)))) wz (by kernel_rfl) (iW 0 (.inl rfl) [(vL eI l),(vI 0)] rfl rfl wz (λj=>aa (.ref j 0 0) (af (ai (aa (.ref j 0 0) ?_))))))))))
 obtain ⟨k,H,a⟩:=bind_some a
 refine dQ 0 [0] il ft (nz H) rfl hb4 rfl (by kernel_rfl) (by kernel_rfl) (by kernel_rfl) (by kernel_rfl) (by kernel_rfl) (by kernel_rfl) (by kernel_rfl) (by decide) (by kernel_rfl) wz (vL Alert.enc k.1) (by kernel_rfl) ([(j,some (.cells 2 [(vL eI k.2.L),(vI k.2.f_at)]))]:Hp) (by kernel_rfl) (aa (vL Alert.enc k.1) (af (ai (aa (vL Alert.enc k.1) ?_))))
 obtain ⟨i,I,a⟩:=bind_some a
 refine aD (zq I) rfl hb5 rfl rfl rfl rfl wz (aa (.tup [(vS i.1),(vI i.2)]) (aa (vS i.1) (aa (vI i.2) (aa (vS i.1) (aa (vI i.2) (af (ai (aa (vS i.1) ?_))))))))
 obtain ⟨b,J,a⟩:=bind_some a
 refine aD (ze J) rfl hb6 rfl rfl rfl rfl wz (aa (.tup [(vL Alert.enc b.1),(vI b.2.1),(vI b.2.2)]) (aa (vL Alert.enc b.1) (aa (vI b.2.1) (aa (vI b.2.2) (aa (vL Alert.enc b.1) (aa (vI b.2.1) (aa (vI b.2.2) (af (ak (ak ?_))))))))))
 obtain ⟨M,c,a⟩:=bind_some a
 refine aP [(3,(.ref j 0 0)),(40,(vB M))] [(j,some (.cells 2 [(vL eI k.2.L),(vI k.2.f_at)]))] ?_ ?_
 ·refine av (aa (vI i.2) (aa (vB (i.2 != 0)) ?_))
  rcases aj c with⟨m,c⟩|⟨m,c⟩
  ·refine aC rfl m wz (ah (ah (aa (vB true) (aa (vB true) (ah (ah (ah (ah (aa (vB true) (af ?_))))))))))
   obtain rfl:=ae c
   exact cu
  ·refine aC rfl m wz (aI (vI b.2.2) wa rfl (aI (vB (b.2.2 != 0)) wa rfl (aa (vB (b.2.2 != 0)) ?_)))
   rcases aj c with⟨n,c⟩|⟨n,c⟩
   ·refine aC rfl n wz (ah (ah (ah (ah (aa (vB true) (af ?_))))))
    obtain rfl:=ae c
    exact cu
   ·refine aC rfl n wz (aI (vL Alert.enc k.1) wa rfl (aI (vL Alert.enc b.1) wa rfl ?_))
    obtain ⟨v,A,c⟩:=bind_some c
    refine aD (gm A) rfl hb7 rfl rfl rfl rfl wa (aI (vB (!v)) wa rfl (aa (vB (!v)) (af ?_)))
    obtain rfl:=ae c
    exact cu
 ·rintro ⟨⟩ _ K z t u
  refine aN _ t u ?_
  rcases aj a with⟨o,a⟩|⟨o,a⟩
  ·refine aB rfl o (ai (aa (vB false) (af ?_)))
   obtain rfl:=ae a
   exact ay (aK [(vB false)] ⟨rfl,trivial⟩)
  ·refine aA rfl o (ax (ai (aa (.ref j 0 0) ?_)))
   obtain ⟨h,B,a⟩:=bind_some a
   refine dQ 0 [0] il ft (wB B) rfl hb9 rfl (by kernel_rfl) (by kernel_rfl) (by kernel_rfl) (by kernel_rfl) (by kernel_rfl) (by kernel_rfl) (by kernel_rfl) (by decide) (by kernel_rfl) wz (vS h.1) (by kernel_rfl) ([(j,some (.cells 2 [(vL eI h.2.L),(vI h.2.f_at)]))]:Hp) (by kernel_rfl) (aa (vS h.1) (af (ak (ai (aa (vS h.1) ?_)))))
   obtain ⟨f,C,a⟩:=bind_some a
   refine aD (ze C) rfl hb6 rfl rfl rfl rfl wz (aa (.tup [(vL Alert.enc f.1),(vI f.2.1),(vI f.2.2)]) (aa (vL Alert.enc f.1) (aa (vI f.2.1) (aa (vI f.2.2) (aa (vL Alert.enc f.1) (aa (vI f.2.2) (af (ai (aa (vI f.2.2) (aa (vB (f.2.2==0)) (af ?_)))))))))))
   rcases aj a with⟨p,a⟩|⟨p,a⟩
   ·refine aB rfl p (ai (aa (vL Alert.enc f.1) ?_))
    obtain ⟨g,E,a⟩:=bind_some a
    refine aD (zq E) rfl hb5 rfl rfl rfl rfl wz (aa (.tup [(vS g.1),(vI g.2)]) (aa (vS g.1) (aa (vI g.2) (aa (vS g.1) (aa (vI g.2) (af (ak ?_)))))))
    obtain ⟨y,e,a⟩:=bind_some a
    refine aP [(2,(vB y))] [(j,some (.cells 2 [(vL eI h.2.L),(vI h.2.f_at)]))] ?_ ?_
    ·refine av (aa (vI g.2) (aa (vB (g.2==0)) ?_))
     rcases aj e with⟨q,e⟩|⟨q,e⟩
     ·refine aC rfl q wz (aI (vS g.1) wa rfl (aI (vS h.1) wa rfl (aI (vB (sEq g.1 h.1)) wa rfl (aa (vB (sEq g.1 h.1)) ?_))))
      rcases aj e with⟨s,e⟩|⟨s,e⟩
      ·refine aC rfl s wz ?_
       obtain ⟨w,F,e⟩:=bind_some e
       refine aD (y9 F) rfl hb10 rfl rfl rfl rfl wa (aa (vB w) (aa (vB w) (af ?_)))
       obtain rfl:=ae e
       exact cu
      ·refine aC rfl s wz (ah (aa (vB false) (aa (vB false) (af ?_))))
       obtain rfl:=ae e
       exact cu
     ·refine aC rfl q wz (ah (ah (ah (aa (vB false) (aa (vB false) (ah (aa (vB false) (aa (vB false) (af ?_)))))))))
      obtain rfl:=ae e
      exact cu
    ·rintro ⟨⟩ _ K z t u
     refine aN _ t u ?_
     obtain rfl:=ae a
     exact ay (aK [(vB y)] ⟨rfl,trivial⟩)
   ·refine aA rfl p (ax (ai ?_))
    obtain ⟨x,G,a⟩:=bind_some a
    refine aD (y9 G) rfl hb10 rfl rfl rfl rfl wz (aa (vB x) (af ?_))
    obtain rfl:=ae a
    exact ay (aK [(vB x)] ⟨rfl,trivial⟩)
end Go.Proofs.YtljhfffghjclfabGreatDoor.Law

