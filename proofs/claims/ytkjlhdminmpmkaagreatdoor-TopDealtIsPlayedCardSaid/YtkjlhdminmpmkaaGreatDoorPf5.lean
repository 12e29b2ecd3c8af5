/-
 The machine computes these plain functions (written by a program of ours).
-/
import Derived.Test.YtkjlhdminmpmkaaGreatDoorFacts
import Derived.Test.YtkjlhdminmpmkaaGreatDoorDefs
import Derived.Test.YtkjlhdminmpmkaaGreatDoorPf4
import Derived.Test.YtkjlhdminmpmkaaGreatDoorShelf
open Go Go.Eng Go.Proofs
namespace Go.Proofs.YtkjlhdminmpmkaaGreatDoor.Law
set_option maxRecDepth 100000
set_option linter.unusedVariables false
set_option maxHeartbeats 1000000
theorem AX {h:Entry} {q:Int} {g:Window} {r:(List Window)×Int} (a:l7 h q g=some r) :
  FnM Tryz.prog 24 [(.d (.agg (Entry.enc h))),(vI q),(.d (.agg (Window.enc g)))] [] (.tup [(vL Window.enc r.1),(vI r.2)]) []:=by
 refine FnM.of_wH ⟨Tryz.prog,45,[],[]⟩ rfl Tryz.func24 rfl rfl (lb_ rfl) (by kernel_rfl) ?_
 unfold l7 at a
 refine ai (jU 0 (.inl rfl) (Entry.v h) rfl rfl wz (λE=>jU 0 (.inl rfl) [(vI g.From),(vI g.To)] rfl rfl wz (λA=>aa .nil (aa (vI 0) (af (ak (ai (aH 0 0 il ft LC OB rfl rfl (.d (.agg (Entry.enc h))) rfl wz (gL (([h]:List Entry).map Entry.enc) PO ez114 rfl rfl rfl rfl rfl wz ?_)))))))))
 obtain ⟨l,N,a⟩:=bind_some a
 refine aG (uz N) rfl hb46 rfl rfl rfl rfl wz (aa (vI l) (af (ai (aa (vI l) (aa (vB (l != 0)) (af ?_))))))
 rcases aj a with⟨w,a⟩|⟨w,a⟩
 ·refine aA rfl w (ai (aa (vI l) (aa .nil (aa (vI l) (af ?_)))))
  obtain rfl:=ae a
  exact aC (aO [.nil,(vI l)] ⟨rfl,⟨rfl,trivial⟩⟩)
 ·refine ay rfl w (ax (ak (ai (aa (vI q) ?_))))
  obtain ⟨X,J,a⟩:=bind_some a
  refine aG (bA J) rfl rR rfl rfl rfl rfl wz (af ?_)
  rcases aj a with⟨t,a⟩|⟨t,a⟩
  ·refine aA rfl t (ai (aa .nil (aa (vI 1) (af ?_))))
   obtain rfl:=ae a
   exact aC (aO [.nil,(vI 1)] ⟨rfl,⟨rfl,trivial⟩⟩)
  ·refine ay rfl t (ax (ak (ai (aH 0 1 il ft yN Gf rfl rfl (.d (.agg (Window.enc g))) rfl wz ?_))))
   obtain ⟨j,K,a⟩:=bind_some a
   refine aG (uK K) rfl hb48 rfl rfl rfl rfl wz (aa (vI j) (af (ai (aa (vI j) (aa (vB (j != 0)) (af ?_))))))
   rcases aj a with⟨u,a⟩|⟨u,a⟩
   ·refine aA rfl u (ai (aa (vI j) (aa .nil (aa (vI j) (af ?_)))))
    obtain rfl:=ae a
    exact aC (aO [.nil,(vI j)] ⟨rfl,⟨rfl,trivial⟩⟩)
   ·refine ay rfl u (ax (ai (aH 0 0 il ft LC OB rfl rfl (.d (.agg (Entry.enc h))) rfl wz (aa (vI q) (aH 0 1 il ft yN Gf rfl rfl (.d (.agg (Window.enc g))) rfl wz ?_)))))
    obtain ⟨i,L,a⟩:=bind_some a
    refine Nq [] (zC L) rfl hb49 rfl (by kernel_rfl) (by kernel_rfl) (by kernel_rfl) (by kernel_rfl) (by kernel_rfl) rfl (by decide) (by kernel_rfl) wz ([(E,some (.cells 13 (Entry.v h))),(A,some (.cells 2 [(vI g.From),(vI g.To)]))]:Hp) (λ_=>by kernel_rfl) (λf=>aa (gV f 2 i) (af (ak (ai (aa (gV f 2 i) (zJ un83 rfl wz (aa (vI 0) (af ?_))))))))
    obtain ⟨Q,y,a⟩:=bind_some a
    obtain ⟨F,y⟩:=bn y
    refine dB (λ(b:List Window)=>[(10,(gV f 2 b))]) (λ(b:List Window)=>[(E,some (.cells 13 (Entry.v h))),(A,some (.cells 2 [(vI g.From),(vI g.To)])),(f,gB 2 Window.enc b)]) (λ(c:Nat)=>(λ(b:List Window)=>[(5,(.ref A 0 0)),(10,(gV f 2 b)),(30,(gV f 2 b)),(31,(vI (i.length:Int))),(32,(vI (c:Int)))])) (λk x s=>lS g k x s) Q (List.range ((i.length:Int)).toNat) i y rfl (aK rfl) ?_ ?_
    ·rintro ⟨c,z,b⟩ ⟨n,m⟩
     dsimp only at n m
     cases z with
     | nil =>
      obtain rfl:=ae n
      refine ai (aa (vB (decide ((c:Int)<(i.length:Int)))) (af ?_))
      refine ak (ay rfl (pM m) (aY ?_))
      exact aW (b) rfl rfl (aK rfl)
     | cons Z z =>
      obtain ⟨T,e,n⟩:=bind_some n
      refine ai (aa (vB (decide ((c:Int)<(i.length:Int)))) (af ?_))
      refine ak (aA rfl (ol m) (ax ?_))
      unfold lS at e
      refine ak (aQ (ai (aa (vI (c:Int)) ?_)))
      obtain ⟨_,B,e⟩:=bind_some e
      refine jv es83 rfl rfl (fF B) (dC B) wz ?_
      obtain ⟨p,O,e⟩:=bind_some e
      refine nU 0 2 il ft yN Gf rfl rfl O (.d (.agg (Window.enc p))) rfl wz (dz 0 (.inl rfl) z37 rfl wz (λW=>aa (vI (c:Int)) (gp 0 il ft 3 yN rfl rfl [(vI p.From),(vI p.To)] rfl wz (af (au (aa (gV f 2 b) (aa (vI (c:Int)) (aH 0 3 il ft yN Gf rfl rfl (.d (.agg (Window.enc p))) rfl wz (aH 0 1 il ft yN Gf rfl rfl (.d (.agg (Window.enc g))) rfl wz ?_)))))))))
      obtain ⟨o,M,e⟩:=bind_some e
      refine aG (Dc M) rfl hb50 rfl rfl rfl rfl wz ?_
      obtain ⟨_,C,e⟩:=bind_some e
      refine jv es83 rfl rfl (fF C) (dC C) wz ?_
      obtain ⟨U,P,e⟩:=bind_some e
      refine vC 0 il ft 2 yN rfl rfl P o rfl wz (fK (v':=(gV f 2 (b.set (0+((c:Int)).toNat) o))) 10 rfl (kW (by simp)) (fK (v':=(gV f 2 (b.set (0+((c:Int)).toNat) o))) 30 rfl (kW (by simp)) (fK (v':=(gV f 2 (b.set (0+((c:Int)).toNat) o))) 37 rfl (kW (by simp)) (af (au (dS (pO m F) wz rfl (aa (vI ((c+1:Nat):Int)) (af ?_))))))))
      obtain rfl:=ae e
      exact aZ (c+1,z,(b.set (0+((c:Int)).toNat) o)) ⟨n,aV m⟩ (ls_ _) rfl (aK rfl)
    ·rintro b G Y R H I
     subst G
     refine aR _ H I (ai (aa (gV f 2 b) (aa (gV f 2 b) (aa (vI 0) (af (fQ 2 rfl (dx 6 2 rfl rfl (dx 10 2 rfl rfl (dx 44 2 rfl rfl ?_)))))))))
     obtain rfl:=ae a
     exact aC (aO [(vL Window.enc b),(vI 0)] ⟨rfl,⟨rfl,trivial⟩⟩)
theorem nu {r:Bool} (g:fu  = some r) :
  FnM Tryz.prog 7 [] [] (vB r) []:=by
 refine FnM.of_wH ⟨Tryz.prog,66,[],[]⟩ rfl Tryz.func7 rfl rfl (lb_ rfl) (by kernel_rfl) ?_
 unfold fu at g
 refine ai (aa (vB false) (af (ai (aL (.d (.agg (Rect.enc (⟨0,0,2,2⟩:Rect)))) wz (by kernel_rfl) (aL (.d (.agg (Rect.enc (⟨1,1,2,2⟩:Rect)))) wz (by kernel_rfl) (gL (([(⟨0,0,2,2⟩:Rect),(⟨1,1,2,2⟩:Rect)]:List Rect).map Rect.enc) Pt ez77 rfl rfl rfl rfl rfl wz ?_))))))
 obtain ⟨f,s,g⟩:=bind_some g
 refine aG (Fq s) rfl hb21 rfl rfl rfl rfl wz (aa (.tup [(vI f.1),(vI f.2)]) (aa (vI f.1) (aa (vI f.2) (aa (vI f.1) (aa (vI f.2) (af (ai (aL (.d (.agg (Window.enc (⟨0,100⟩:Window)))) wz (by kernel_rfl) (aL (.agg [(vS (⟨#[97]⟩:ByteArray)),(vS (⟨#[]⟩:ByteArray)),(vI 0),(vI 100),.nil,(vI 10),(vI 0),(vI 0)]) wz (by kernel_rfl) ?_)))))))))
 obtain ⟨c,t,g⟩:=bind_some g
 refine aG (D8 t) rfl hb22 rfl rfl rfl rfl wz (aa (.tup [(vI c.1),(vI c.2)]) (aa (vI c.1) (aa (vI c.2) (aa (vI c.1) (aa (vI c.2) (af (ai (aL (.d (.agg (Beat.enc (⟨(⟨#[112]⟩:ByteArray),0,100⟩:Beat)))) wz (by kernel_rfl) (aL (.d (.agg (Beat.enc (⟨(⟨#[112]⟩:ByteArray),1000,1300⟩:Beat)))) wz (by kernel_rfl) (gL (([(⟨(⟨#[112]⟩:ByteArray),0,100⟩:Beat),(⟨(⟨#[112]⟩:ByteArray),1000,1300⟩:Beat)]:List Beat).map Beat.enc) Po ez82 rfl rfl rfl rfl rfl wz ?_))))))))))
 obtain ⟨e,u,g⟩:=bind_some g
 refine aG (Fu u) rfl hb23 rfl rfl rfl rfl wz (aa (.tup [(vI e.1),(vI e.2)]) (aa (vI e.1) (aa (vI e.2) (aa (vI e.1) (aa (vI e.2) (af (ai (aL (.agg [(vS (⟨#[97]⟩:ByteArray)),(vS (⟨#[98]⟩:ByteArray)),(vI 0),(vI 0),(vI 0),(vI 1),(vI 127),.nil,(vI 1),(vI 2),(vI 0),.nil,(vB false)]) wz (by kernel_rfl) (aL (.d (.agg (Window.enc (⟨0,86400000⟩:Window)))) wz (by kernel_rfl) ?_)))))))))
 obtain ⟨b,v,g⟩:=bind_some g
 refine aG (AX v) rfl hb24 rfl rfl rfl rfl wz (aa (.tup [(vL Window.enc b.1),(vI b.2)]) (aa (vL Window.enc b.1) (aa (vI b.2) (aa (vL Window.enc b.1) (aa (vI b.2) (af (aR (H0:=([]:Hp)) ([(1,(vI f.1)),(2,(vI f.2)),(3,(vI c.1)),(4,(vI c.2)),(5,(vI e.1)),(6,(vI e.2)),(7,(vL Window.enc b.1)),(8,(vI b.2))]:SL_) (by kernel_rfl) (Br (by kernel_rfl)) (ak ?_))))))))
 obtain ⟨o,a,g⟩:=bind_some g
 refine aU [(0,(vB o))] [] ?_ ?_
 ·refine au (aa (vI f.2) (aa (vB (f.2==0)) ?_))
  rcases aj a with⟨h,a⟩|⟨h,a⟩
  ·refine aB rfl h wz (aL (vI c.2) wa rfl (aL (vB (c.2==0)) wa rfl (aa (vB (c.2==0)) ?_)))
   rcases aj a with⟨i,a⟩|⟨i,a⟩
   ·refine aB rfl i wz (aL (vI e.2) wa rfl (aL (vB (e.2==0)) wa rfl (aa (vB (e.2==0)) ?_)))
    rcases aj a with⟨j,a⟩|⟨j,a⟩
    ·refine aB rfl j wz (aL (vI b.2) wa rfl (aL (vB (b.2==0)) wa rfl (aa (vB (b.2==0)) ?_)))
     rcases aj a with⟨k,a⟩|⟨k,a⟩
     ·refine aB rfl k wz (aL (vI f.1) wa rfl (aL (vB (f.1==7)) wa rfl (aa (vB (f.1==7)) ?_)))
      rcases aj a with⟨l,a⟩|⟨l,a⟩
      ·refine aB rfl l wz (aL (vI c.1) wa rfl (aL (vB (c.1==5)) wa rfl (aa (vB (c.1==5)) ?_)))
       rcases aj a with⟨m,a⟩|⟨m,a⟩
       ·refine aB rfl m wz (aL (vI e.1) wa rfl (aL (vB (e.1==500)) wa rfl (aa (vB (e.1==500)) ?_)))
        rcases aj a with⟨n,a⟩|⟨n,a⟩
        ·refine aB rfl n wz (aL (vL Window.enc b.1) wa rfl (bQ un83 rfl wa (aL (vB ((b.1.length:Int)==1)) wa rfl (aa (vB ((b.1.length:Int)==1)) (aa (vB ((b.1.length:Int)==1)) (af ?_))))))
         obtain rfl:=ae a
         exact cu
        ·refine aB rfl n wz (ah (ah (ah (aa (vB false) (aa (vB false) (af ?_))))))
         obtain rfl:=ae a
         exact cu
       ·refine aB rfl m wz (ah (ah (aa (vB false) (aa (vB false) (ah (ah (ah (aa (vB false) (aa (vB false) (af ?_))))))))))
        obtain rfl:=ae a
        exact cu
      ·refine aB rfl l wz (ah (ah (aa (vB false) (aa (vB false) (ah (ah (aa (vB false) (aa (vB false) (ah (ah (ah (aa (vB false) (aa (vB false) (af ?_))))))))))))))
       obtain rfl:=ae a
       exact cu
     ·refine aB rfl k wz (ah (ah (aa (vB false) (aa (vB false) (ah (ah (aa (vB false) (aa (vB false) (ah (ah (aa (vB false) (aa (vB false) (ah (ah (ah (aa (vB false) (aa (vB false) (af ?_))))))))))))))))))
      obtain rfl:=ae a
      exact cu
    ·refine aB rfl j wz (ah (ah (aa (vB false) (aa (vB false) (ah (ah (aa (vB false) (aa (vB false) (ah (ah (aa (vB false) (aa (vB false) (ah (ah (aa (vB false) (aa (vB false) (ah (ah (ah (aa (vB false) (aa (vB false) (af ?_))))))))))))))))))))))
     obtain rfl:=ae a
     exact cu
   ·refine aB rfl i wz (ah (ah (aa (vB false) (aa (vB false) (ah (ah (aa (vB false) (aa (vB false) (ah (ah (aa (vB false) (aa (vB false) (ah (ah (aa (vB false) (aa (vB false) (ah (ah (aa (vB false) (aa (vB false) (ah (ah (ah ?_)))))))))))))))))))))))
    refine aa (vB false) (aa (vB false) (af ?_))
    obtain rfl:=ae a
    exact cu
  ·refine aB rfl h wz (ah (ah (aa (vB false) (aa (vB false) (ah (ah (aa (vB false) (aa (vB false) (ah (ah (aa (vB false) (aa (vB false) (ah (ah (aa (vB false) (aa (vB false) (ah (ah (aa (vB false) (aa (vB false) (ah (ah (aa (vB false) ?_)))))))))))))))))))))))
   refine aa (vB false) (ah (ah (ah (aa (vB false) (aa (vB false) (af ?_))))))
   obtain rfl:=ae a
   exact cu
 ·rintro ⟨⟩ _ x w p q
  refine aR _ p q ?_
  obtain rfl:=ae g
  exact aC (aO [(vB o)] ⟨rfl,trivial⟩)
theorem C9 {x0:ByteArray} {x1:ByteArray} {r:ByteArray} (a:rE x0 x1=some r) :
  FnM Tryz.prog 78 [(vS x0),(vS x1)] [] (vS r) [] :=
 Rl rfl Tryz.strings_Trim_ascii  a
theorem wC {b:ByteArray} {r:Bool} (c:mZ b=some r) :
  FnM Tryz.prog 51 [(vS b)] [] (vB r) []:=by
 refine FnM.of_wH ⟨Tryz.prog,11,[],[]⟩ rfl Tryz.func51 rfl rfl (lb_ rfl) (by kernel_rfl) ?_
 unfold mZ at c
 refine ai (aa (vB false) (af (ak ?_)))
 obtain ⟨f,a,c⟩:=bind_some c
 refine aU [(2,(vB f))] [] ?_ ?_
 ·refine au (aa (vS b) (EL un9 rfl wz (aa (vB ((b.size:Int)==16)) ?_)))
  rcases aj a with⟨d,a⟩|⟨d,a⟩
  ·refine aB rfl d wz (aL (vS b) wa rfl ?_)
   obtain ⟨e,i,a⟩:=bind_some a
   refine aG (C9 i) rfl hb78 rfl rfl rfl rfl wa (aL (vB (sEq e (⟨#[]⟩:ByteArray))) wa rfl (aa (vB (sEq e (⟨#[]⟩:ByteArray))) (aa (vB (sEq e (⟨#[]⟩:ByteArray))) (af ?_))))
   obtain rfl:=ae a
   exact cu
  ·refine aB rfl d wz (ah (ah (ah (aa (vB false) (aa (vB false) (af ?_))))))
   obtain rfl:=ae a
   exact cu
 ·rintro ⟨⟩ _ k j g h
  refine aR _ g h ?_
  obtain rfl:=ae c
  exact aC (aO [(vB f)] ⟨rfl,trivial⟩)
theorem zn {c:ByteArray} {r:Int} (a:lF c=some r) :
  FnM Tryz.prog 25 [(vS c)] [] (vI r) []:=by
 refine FnM.of_wH ⟨Tryz.prog,10,[],[]⟩ rfl Tryz.func25 rfl rfl (lb_ rfl) (by kernel_rfl) ?_
 unfold lF at a
 refine ai (aa (vI 0) (af (ak (ak ?_))))
 obtain ⟨j,b,a⟩:=bind_some a
 refine aU [(9,(vB j))] [] ?_ ?_
 ·refine au (aa (vS c) (aa (vB (sNe c (⟨#[]⟩:ByteArray))) ?_))
  rcases aj b with⟨d,b⟩|⟨d,b⟩
  ·refine aB rfl d wz (aL (vS c) wa rfl ?_)
   obtain ⟨f,i,b⟩:=bind_some b
   refine aG (wC i) rfl hb51 rfl rfl rfl rfl wa (aL (vB (!f)) wa rfl (aa (vB (!f)) (af ?_)))
   obtain rfl:=ae b
   exact cu
  ·refine aB rfl d wz (ah (ah (ah (aa (vB false) (af ?_)))))
   obtain rfl:=ae b
   exact cu
 ·rintro ⟨⟩ _ l k g h
  refine aR _ g h ?_
  rcases aj a with⟨e,a⟩|⟨e,a⟩
  ·refine aA rfl e (ai (aa (vI 3) (af ?_)))
   obtain rfl:=ae a
   exact aC (aO [(vI 3)] ⟨rfl,trivial⟩)
  ·refine ay rfl e (ax (ai (aa (vI 0) (af ?_))))
   obtain rfl:=ae a
   exact aC (aO [(vI 0)] ⟨rfl,trivial⟩)
theorem tO {c:Log_} {r:Int} (b:ku c=some r) :
  FnM Tryz.prog 27 [(.d (.agg (Log_.enc c)))] [] (vI r) []:=by
 refine FnM.of_wH ⟨Tryz.prog,26,[],[]⟩ rfl Tryz.func27 rfl rfl (lb_ rfl) (by kernel_rfl) ?_
 unfold ku at b
 refine ai (jU 0 (.inl rfl) (Log_.v c) rfl rfl wz (λm=>aa (vI 0) (af (ak (ak ?_)))))
 obtain ⟨B,e,b⟩:=bind_some b
 refine aU [(1,(.ref m 0 0)),(12,(vB B))] [(m,some (.cells 6 (Log_.v c)))] ?_ ?_
 ·refine au (aI ut rfl 0 rfl wz (aH 0 0 il ft sz9 ag9 rfl rfl (vS c.Player) rfl wz ?_))
  obtain ⟨y,t,e⟩:=bind_some e
  refine aG (gy t) rfl CY rfl rfl rfl rfl wz (aa (vB (!y)) ?_)
  rcases aj e with⟨j,e⟩|⟨j,e⟩
  ·refine aB rfl j wz (ah (ah (ah (ah (aa (vB true) (af ?_))))))
   obtain rfl:=ae e
   exact cu
  ·refine aB rfl j wz (aI LG rfl 1 rfl wa (aH 0 0 il ft sz9 ag9 rfl rfl (vS c.Item) rfl wa ?_))
   obtain ⟨n,u,e⟩:=bind_some e
   refine aG (gy u) rfl CY rfl rfl rfl rfl wa (aL (vB (!n)) wa rfl (aa (vB (!n)) (af ?_)))
   obtain rfl:=ae e
   exact cu
 ·rintro ⟨⟩ _ z o k l
  refine aR _ k l ?_
  rcases aj b with⟨f,b⟩|⟨f,b⟩
  ·refine aA rfl f (ai (aa (vI 5) (af ?_)))
   obtain rfl:=ae b
   exact aC (aO [(vI 5)] ⟨rfl,trivial⟩)
  ·refine ay rfl f (ax (ak (ak ?_)))
   obtain ⟨A,a,b⟩:=bind_some b
   refine aU [(25,(vB A))] [(m,some (.cells 6 (Log_.v c)))] ?_ ?_
   ·refine au (aI BA rfl 2 rfl wz (aH 0 0 il ft sz3 ag3 rfl rfl (vI c.No) rfl wz ?_))
    obtain ⟨C,p,a⟩:=bind_some a
    refine aG (bA p) rfl rR rfl rfl rfl rfl wz ?_
    rcases aj a with⟨g,a⟩|⟨g,a⟩
    ·refine aB rfl g wz (ah (ah (ah (aa (vB true) (aa (vB true) (ah (ah (ah (aa (vB true) (af ?_))))))))))
     obtain rfl:=ae a
     exact cu
    ·refine aB rfl g wz (aI IY rfl 3 rfl wa (aH 0 0 il ft sz3 ag3 rfl rfl (vI c.Clock) rfl wa ?_))
     obtain ⟨w,q,a⟩:=bind_some a
     refine aG (bA q) rfl rR rfl rfl rfl rfl wa (aa (vB w) ?_)
     rcases aj a with⟨h,a⟩|⟨h,a⟩
     ·refine aB rfl h wz (ah (ah (ah (aa (vB true) (af ?_)))))
      obtain rfl:=ae a
      exact cu
     ·refine aB rfl h wz (aI Ml rfl 4 rfl wa (aH 0 0 il ft sz3 ag3 rfl rfl (vI c.Long) rfl wa ?_))
      obtain ⟨x,s,a⟩:=bind_some a
      refine aG (bA s) rfl rR rfl rfl rfl rfl wa (aa (vB x) (af ?_))
      obtain rfl:=ae a
      exact cu
   ·rintro ⟨⟩ _ z o k l
    refine aR _ k l ?_
    rcases aj b with⟨i,b⟩|⟨i,b⟩
    ·refine aA rfl i (ai (aa (vI 1) (af ?_)))
     obtain rfl:=ae b
     exact aC (aO [(vI 1)] ⟨rfl,trivial⟩)
    ·refine ay rfl i (ax (ai (aa (vI 0) (af ?_))))
     obtain rfl:=ae b
     exact aC (aO [(vI 0)] ⟨rfl,trivial⟩)
theorem qK {x0:Int} {r:ByteArray} (a:strconv_Itoa x0=some r) :
  FnM Tryz.prog 81 [(vI x0)] [] (vS r) [] :=
 itoa_ok Tryz.strconv_Itoa LQ a
theorem FR {b:Log_} {r:ByteArray} (a:si b=some r) :
  FnM Tryz.prog 54 [(.d (.agg (Log_.enc b)))] [] (vS r) []:=by
 refine FnM.of_wH ⟨Tryz.prog,24,[],[]⟩ rfl Tryz.func54 rfl rfl (lb_ rfl) (by kernel_rfl) ?_
 unfold si at a
 refine ai (jU 0 (.inl rfl) (Log_.v b) rfl rfl wz (λp=>aa (vS (⟨#[]⟩:ByteArray)) (af (ak (bv (aI ut rfl 0 rfl wz (aH 1 0 (.inr (by kernel_rfl)) (λ_ _ ag=>trivial) sz9 ag9 rfl rfl (vS b.Player) rfl wz ?_)))))))
 obtain ⟨z,m,a⟩:=bind_some a
 refine xD rfl rfl m wz (aI LG rfl 1 rfl wz (aH 4 0 (.inr (by kernel_rfl)) (λ_ _ ag=>⟨.inl ⟨rfl,rfl⟩,trivial⟩) sz9 ag9 rfl rfl (vS b.Item) rfl wz ?_))
 obtain ⟨A,n,a⟩:=bind_some a
 refine xD rfl rfl n wz ?_
 obtain ⟨B,o,a⟩:=bind_some a
 refine xD rfl rfl o wz (aI BA rfl 2 rfl wz (aH 8 0 (.inr (by kernel_rfl)) (λ_ _ ag=>⟨.inl ⟨rfl,rfl⟩,⟨.inl ⟨rfl,rfl⟩,trivial⟩⟩) sz3 ag3 rfl rfl (vI b.No) rfl wz ?_))
 obtain ⟨t,e,a⟩:=bind_some a
 refine aG (qK e) rfl hb81 rfl rfl rfl rfl wz ?_
 obtain ⟨u,h,a⟩:=bind_some a
 refine xD rfl rfl h wz ?_
 obtain ⟨w,i,a⟩:=bind_some a
 refine xD rfl rfl i wz (aI IY rfl 3 rfl wz (aH 13 0 (.inr (by kernel_rfl)) (λ_ _ ag=>⟨.inl ⟨rfl,rfl⟩,⟨.inl ⟨rfl,rfl⟩,⟨.inl ⟨rfl,rfl⟩,trivial⟩⟩⟩) sz3 ag3 rfl rfl (vI b.Clock) rfl wz ?_))
 obtain ⟨q,f,a⟩:=bind_some a
 refine aG (qK f) rfl hb81 rfl rfl rfl rfl wz ?_
 obtain ⟨x,j,a⟩:=bind_some a
 refine xD rfl rfl j wz ?_
 obtain ⟨y,k,a⟩:=bind_some a
 refine xD rfl rfl k wz (aI Ml rfl 4 rfl wz (aH 18 0 (.inr (by kernel_rfl)) (λ_ _ ag=>⟨.inl ⟨rfl,rfl⟩,⟨.inl ⟨rfl,rfl⟩,⟨.inl ⟨rfl,rfl⟩,⟨.inl ⟨rfl,rfl⟩,trivial⟩⟩⟩⟩) sz3 ag3 rfl rfl (vI b.Long) rfl wz ?_))
 obtain ⟨s,g,a⟩:=bind_some a
 refine aG (qK g) rfl hb81 rfl rfl rfl rfl wz ?_
 obtain ⟨c,l,a⟩:=bind_some a
 refine xD rfl rfl l wz (aa (vS c) (af ?_))
 obtain rfl:=ae a
 exact aC (aO [(vS c)] ⟨rfl,trivial⟩)
theorem oN {a:Int} {r:Bool} (b:fG a=some r) :
  FnM Tryz.prog 161 [(vI a)] [] (vB r) []:=by
 refine FnM.of_wH ⟨Tryz.prog,8,[],[]⟩ rfl Tryz.func161 rfl rfl (lb_ rfl) (by kernel_rfl) ?_
 unfold fG at b
 refine ai (aa (vB false) (af (ai (aa (vI a) (aa (vI a) (aa (vI (w64 (a-1))) (aa (vI (Cf .i64 a (w64 (a-1)))) (aa (vB ((Cf .i64 a (w64 (a-1)))==0)) (aa (vB ((Cf .i64 a (w64 (a-1)))==0)) (af ?_))))))))))
 obtain rfl:=ae b
 exact aC (aO [(vB ((Cf .i64 a (w64 (a-1)))==0))] ⟨rfl,trivial⟩)
theorem sK {x0:Int} {r:Int} (a:kD x0=some r) :
  FnM Tryz.prog 162 [(.d (.int .u64 x0))] [] (vI r) [] :=
 tz_ok db_g Tryz.bits_TrailingZeros laid_db a
theorem pz {l:(List Int)} {u:Int} {a:Int} {n:Bool} {k:Bool} {r:(List Int)×ByteArray} (e:eD l u a n k=some r) :
  FnM Tryz.prog 138 [(vL (eK .u8) l),(.d (.int .u64 u)),(vI a),(vB n),(vB k)] [] (.tup [(vL (eK .u8) r.1),(vS r.2)]) []:=by
 refine FnM.of_wH ⟨Tryz.prog,102,[],[]⟩ rfl Tryz.func138 rfl rfl (lb_ rfl) (by kernel_rfl) ?_
 unfold eD at e
 refine ai (aa .nil (aa (vS (⟨#[]⟩:ByteArray)) (af (ak (ak ?_)))))
 obtain ⟨Ü,p,e⟩:=bind_some e
 refine aU [(0,(vL (eK .u8) l)),(1,(.d (.int .u64 u))),(2,(vI a)),(3,(vB n)),(4,(vB k)),(10,.nil),(11,(vS (⟨#[]⟩:ByteArray))),(28,(vB Ü))] [] ?_ ?_
 ·refine au (aa (vI a) (aa (vB (decide (a<2))) ?_))
  rcases aj p with⟨N,p⟩|⟨N,p⟩
  ·refine aB rfl N wz (ah (ah (aa (vB true) (aa (vB true) (ah (ah (aa (vB true) (af ?_))))))))
   obtain rfl:=ae p
   exact cu
  ·refine aB rfl N wz (aL (vI a) wa rfl (aL (vB (a==10)) wa rfl (aa (vB (a==10)) ?_)))
   rcases aj p with⟨O,p⟩|⟨O,p⟩
   ·refine aB rfl O wz (ah (ah (aa (vB true) (af ?_))))
    obtain rfl:=ae p
    exact cu
   ·refine aB rfl O wz (aL (vI a) wa rfl (aL (vB (decide (a>36))) wa rfl (aa (vB (decide (a>36))) (af ?_))))
    obtain rfl:=ae p
    exact cu
 ·rintro ⟨⟩ _ y v i j
  refine aR _ i j ?_
  obtain ⟨ã,A,e⟩:=bind_some e
  refine aU [(0,(vL (eK .u8) l)),(1,(.d (.int .u64 u))),(2,(vI a)),(3,(vB n)),(4,(vB k)),(10,.nil),(11,(vS (⟨#[]⟩:ByteArray)))] [] ?_ ?_
  ·rcases aj A with⟨G,A⟩|⟨G,A⟩
   ·refine aA rfl G (au ?_)
    cases A
   ·refine ay rfl G (ax ?_)
    obtain rfl:=ae A
    exact cu
  ·rintro ⟨⟩ _ y v i j
   refine aR _ i j (ai (Ku (List.replicate 65 (0:Int)) 0 (.inl rfl) z228 (by kernel_rfl) (by kernel_rfl) Cq wz (λm=>af (ai (aa (vI 65) (af (ak (ai (aa (vB n) (af ?_))))))))))
   obtain ⟨T,B,e⟩:=bind_some e
   refine aU [(0,(vL (eK .u8) l)),(1,(.d (.int .u64 T))),(2,(vI a)),(3,(vB n)),(4,(vB k)),(10,.nil),(11,(vS (⟨#[]⟩:ByteArray))),(12,(.ref m 0 0)),(13,(vI 65))] [(m,some (bV 1 (eK .u8) (List.replicate 65 (0:Int))))] ?_ ?_
   ·rcases aj B with⟨H,B⟩|⟨H,B⟩
    ·refine aA rfl H (au (aa (.d (.int .u64 u)) (aa (.d (.int .u64 (IntKind.u64.wrap (0-u)))) (aa (.d (.int .u64 (IntKind.u64.wrap (0-u)))) (af ?_)))))
     obtain rfl:=ae B
     exact cu
    ·refine ay rfl H (ax ?_)
     obtain rfl:=ae B
     exact cu
   ·rintro ⟨⟩ _ y v i j
    refine aR _ i j (ak (ai (aa (vI a) ?_)))
    obtain ⟨â,É,e⟩:=bind_some e
    refine aG (oN É) rfl hb161 rfl rfl rfl rfl wz (af ?_)
    obtain ⟨z,f,e⟩:=bind_some e
    refine aU [(0,(vL (eK .u8) l)),(3,(vB n)),(4,(vB k)),(10,.nil),(11,(vS (⟨#[]⟩:ByteArray))),(12,(.ref m 0 0)),(13,(vI z.2))] [(m,some (bV 1 (eK .u8) z.1))] ?_ ?_
    ·rcases aj f with⟨I,f⟩|⟨I,f⟩
     ·refine aA rfl I (ai (aa (vI a) (oZ un3 Cz rfl wz ?_)))
      obtain ⟨F,Ê,f⟩:=bind_some f
      refine aG (sK Ê) rfl hb162 rfl rfl rfl rfl wz (oZ un3 Cz rfl wz (aa (.d (.int .u64 (IntKind.u64.wrap F))) (af (ai (aa (vI a) (oZ un3 KV rfl wz (aa (.d (.int .u64 (IntKind.u64.wrap a))) (af (ai (aa (vI a) (oZ un3 Cz rfl wz (aa (.d (.int .u64 (IntKind.u64.wrap ((IntKind.u64.wrap a)-1)))) (aa (.d (.int .u64 (IntKind.u64.wrap ((IntKind.u64.wrap a)-1)))) (af (ak ?_)))))))))))))))
      obtain ⟨Ú,P,f⟩:=bind_some f
      obtain ⟨Ø,P⟩:=bW P
      refine dY (λ(b:(List Int)×Int×Int)=>[(0,(vL (eK .u8) l)),(1,(.d (.int .u64 b.2.1))),(3,(vB n)),(4,(vB k)),(10,.nil),(11,(vS (⟨#[]⟩:ByteArray))),(12,(.ref m 0 0)),(13,(vI b.2.2))]) (λ(b:(List Int)×Int×Int)=>[(m,some (bV 1 (eK .u8) b.1))]) (λ(C:Nat)=>(λ(b:(List Int)×Int×Int)=>[(0,(vL (eK .u8) l)),(1,(.d (.int .u64 b.2.1))),(3,(vB n)),(4,(vB k)),(10,.nil),(11,(vS (⟨#[]⟩:ByteArray))),(12,(.ref m 0 0)),(13,(vI b.2.2)),(14,(.d (.int .u64 (IntKind.u64.wrap F)))),(15,(.d (.int .u64 (IntKind.u64.wrap a)))),(16,(.d (.int .u64 (IntKind.u64.wrap ((IntKind.u64.wrap a)-1)))))])) (λs=>bJ a F s) Ú Ø ((List.replicate 65 (0:Int)),T,65) P rfl (aK rfl) ?_ ?_
      ·rintro ⟨C,b⟩ w
       dsimp only at w
       cases C with
       | zero=>cases w
       | succ C =>
        obtain ⟨Æ,g,w⟩:=bind_some w
        unfold bJ at g
        refine ak (ai (aa (.d (.int .u64 b.2.1)) (aa (.d (.int .u64 (IntKind.u64.wrap a))) (aa (vB (decide (b.2.1>=(IntKind.u64.wrap a)))) (af ?_)))))
        rcases aj g with⟨J,g⟩|⟨J,g⟩
        ·refine aA rfl J (ax (aQ (ai (aa (vI b.2.2) (aa (vI (w64 (b.2.2-1))) (aa (vI (w64 (b.2.2-1))) (af (ai (aa (vI (w64 (b.2.2-1))) (aa (.d (.int .u64 b.2.1)) (aa (.d (.int .u64 (IntKind.u64.wrap ((IntKind.u64.wrap a)-1)))) (aa (.d (.int .u64 (Cf .u64 b.2.1 (IntKind.u64.wrap ((IntKind.u64.wrap a)-1))))) ?_))))))))))))
         obtain ⟨U,Ì,g⟩:=bind_some g
         refine zD un9 rfl rfl Ì wz ?_
         obtain ⟨_,X,g⟩:=bind_some g
         refine K7 0 0 il ft Cq rfl rfl rfl (lT X) (je X) wz ?_
         obtain ⟨Ý,Í,g⟩:=bind_some g
         refine yY 0 il ft 0 sz5 rfl rfl Í (U.toNat:Int) rfl wz (af (au (aa (.d (.int .u64 b.2.1)) (aa (.d (.int .u64 (IntKind.u64.wrap F))) ?_))))
         obtain ⟨Ã,Õ,g⟩:=bind_some g
         refine Hf rfl rfl Õ wz (aa (.d (.int .u64 Ã)) (af ?_))
         obtain rfl:=ae g
         exact aZ (C,((b.1.set ((w64 (b.2.2-1))).toNat (U.toNat:Int)),Ã,(w64 (b.2.2-1)))) w (ls_ _) rfl (aK rfl)
        ·refine ay rfl J (aY ?_)
         obtain rfl:=ae g
         obtain rfl:=ae w
         exact aW ((b.1,b.2.1,b.2.2)) rfl rfl (aK rfl)
      ·rintro b R y v i j
       subst R
       refine aR _ i j (ai (aa (vI b.2.2) (aa (vI (w64 (b.2.2-1))) (aa (vI (w64 (b.2.2-1))) (af (au (aa (vI (w64 (b.2.2-1))) (aa (.d (.int .u64 b.2.1)) ?_))))))))
       obtain ⟨Ä,Î,f⟩:=bind_some f
       refine zD un9 rfl rfl Î wz ?_
       obtain ⟨_,Y,f⟩:=bind_some f
       refine K7 0 0 il ft Cq rfl rfl rfl (lT Y) (je Y) wz ?_
       obtain ⟨Þ,Ï,f⟩:=bind_some f
       refine yY 0 il ft 0 sz5 rfl rfl Ï (Ä.toNat:Int) rfl wz (af ?_)
       obtain rfl:=ae f
       exact cu
     ·refine ay rfl I (ai (aa (vI a) (oZ un3 KV rfl wz (aa (.d (.int .u64 (IntKind.u64.wrap a))) (af (ak ?_))))))
      obtain ⟨Û,Q,f⟩:=bind_some f
      obtain ⟨Ù,Q⟩:=bW Q
      refine dY (λ(c:(List Int)×Int×Int)=>[(0,(vL (eK .u8) l)),(1,(.d (.int .u64 c.2.1))),(3,(vB n)),(4,(vB k)),(10,.nil),(11,(vS (⟨#[]⟩:ByteArray))),(12,(.ref m 0 0)),(13,(vI c.2.2))]) (λ(c:(List Int)×Int×Int)=>[(m,some (bV 1 (eK .u8) c.1))]) (λ(E:Nat)=>(λ(c:(List Int)×Int×Int)=>[(0,(vL (eK .u8) l)),(1,(.d (.int .u64 c.2.1))),(3,(vB n)),(4,(vB k)),(10,.nil),(11,(vS (⟨#[]⟩:ByteArray))),(12,(.ref m 0 0)),(13,(vI c.2.2)),(17,(.d (.int .u64 (IntKind.u64.wrap a))))])) (λs=>iG a s) Û Ù ((List.replicate 65 (0:Int)),T,65) Q rfl (aK rfl) ?_ ?_
      ·rintro ⟨E,c⟩ x
       dsimp only at x
       cases E with
       | zero=>cases x
       | succ E =>
        obtain ⟨Æ,h,x⟩:=bind_some x
        unfold iG at h
        refine ak (ai (aa (.d (.int .u64 c.2.1)) (aa (.d (.int .u64 (IntKind.u64.wrap a))) (aa (vB (decide (c.2.1>=(IntKind.u64.wrap a)))) (af ?_)))))
        rcases aj h with⟨K,h⟩|⟨K,h⟩
        ·refine aA rfl K (ax (aQ (ai (aa (vI c.2.2) (aa (vI (w64 (c.2.2-1))) (aa (vI (w64 (c.2.2-1))) (af (ai (aa (.d (.int .u64 c.2.1)) (aa (.d (.int .u64 (IntKind.u64.wrap a))) ?_))))))))))
         obtain ⟨t,Ö,h⟩:=bind_some h
         refine Oh rfl rfl Ö wz (aa (.d (.int .u64 t)) (af (ai (aa (vI (w64 (c.2.2-1))) (aa (.d (.int .u64 c.2.1)) (aa (.d (.int .u64 t)) (aa (.d (.int .u64 (IntKind.u64.wrap a))) (aa (.d (.int .u64 (IntKind.u64.wrap (t*(IntKind.u64.wrap a))))) (aa (.d (.int .u64 (IntKind.u64.wrap (c.2.1-(IntKind.u64.wrap (t*(IntKind.u64.wrap a))))))) ?_)))))))))
         obtain ⟨W,Ð,h⟩:=bind_some h
         refine zD un9 rfl rfl Ð wz ?_
         obtain ⟨_,Z,h⟩:=bind_some h
         refine K7 0 0 il ft Cq rfl rfl rfl (lT Z) (je Z) wz ?_
         obtain ⟨ß,Ñ,h⟩:=bind_some h
         refine yY 0 il ft 0 sz5 rfl rfl Ñ (W.toNat:Int) rfl wz (af (au (aa (.d (.int .u64 t)) (aa (.d (.int .u64 t)) (af ?_)))))
         obtain rfl:=ae h
         exact aZ (E,((c.1.set ((w64 (c.2.2-1))).toNat (W.toNat:Int)),t,(w64 (c.2.2-1)))) x (ls_ _) rfl (aK rfl)
        ·refine ay rfl K (aY ?_)
         obtain rfl:=ae h
         obtain rfl:=ae x
         exact aW ((c.1,c.2.1,c.2.2)) rfl rfl (aK rfl)
      ·rintro c R y v i j
       subst R
       refine aR _ i j (ai (aa (vI c.2.2) (aa (vI (w64 (c.2.2-1))) (aa (vI (w64 (c.2.2-1))) (af (au (aa (vI (w64 (c.2.2-1))) (aa (.d (.int .u64 c.2.1)) ?_))))))))
       obtain ⟨Å,Ò,f⟩:=bind_some f
       refine zD un9 rfl rfl Ò wz ?_
       obtain ⟨_,À,f⟩:=bind_some f
       refine K7 0 0 il ft Cq rfl rfl rfl (lT À) (je À) wz ?_
       obtain ⟨à,Ó,f⟩:=bind_some f
       refine yY 0 il ft 0 sz5 rfl rfl Ó (Å.toNat:Int) rfl wz (af ?_)
       obtain rfl:=ae f
       exact cu
    ·rintro ⟨⟩ _ y v i j
     refine aR _ i j (ak (ai (aa (vB n) (af ?_))))
     obtain ⟨o,q,e⟩:=bind_some e
     refine aU [(0,(vL (eK .u8) l)),(4,(vB k)),(10,.nil),(11,(vS (⟨#[]⟩:ByteArray))),(12,(.ref m 0 0)),(13,(vI o.2))] [(m,some (bV 1 (eK .u8) o.1))] ?_ ?_
     ·rcases aj q with⟨L,q⟩|⟨L,q⟩
      ·refine aA rfl L (ai (aa (vI z.2) (aa (vI (w64 (z.2-1))) (aa (vI (w64 (z.2-1))) (af (au (aa (vI (w64 (z.2-1))) ?_)))))))
       obtain ⟨_,Á,q⟩:=bind_some q
       refine K7 0 0 il ft Cq rfl rfl rfl (lT Á) (je Á) wz ?_
       obtain ⟨á,Ô,q⟩:=bind_some q
       refine yY 0 il ft 0 sz5 rfl rfl Ô 45 rfl wz (af ?_)
       obtain rfl:=ae q
       exact cu
      ·refine ay rfl L (ax ?_)
       obtain rfl:=ae q
       exact cu
     ·rintro ⟨⟩ _ y v i j
      refine aR _ i j (ak (ai (aa (vB k) (af ?_))))
      rcases aj e with⟨M,e⟩|⟨M,e⟩
      ·refine aA rfl M (ai (aa (vL (eK .u8) l) (aa (vI o.2) ?_)))
       obtain ⟨_,Ç,e⟩:=bind_some e
       obtain ⟨_,Ë,e⟩:=bind_some e
       refine J8 0 0 il ft Cq rfl rfl rfl Ç Ë wz ?_
       cases e
      ·refine ay rfl M (ax (ai (aa (vI o.2) ?_)))
       obtain ⟨_,È,e⟩:=bind_some e
       obtain ⟨_,Â,e⟩:=bind_some e
       refine J8 0 0 il ft Cq rfl rfl rfl È Â wz (h_convp 0 0 il ft un184 un9 un5 rfl rfl (yo Â) wz (aa (vS (Go.strOfNums (Dh o.1 ((o.2).toNat) (((o.1.length:Int)).toNat-(o.2).toNat)))) (af ?_)))
       obtain rfl:=ae e
       exact aC (aO [.nil,(vS (Go.strOfNums (Dh o.1 ((o.2).toNat) (((o.1.length:Int)).toNat-(o.2).toNat))))] ⟨rfl,⟨rfl,trivial⟩⟩)
theorem pQ {c:Int} {e:Int} {r:ByteArray} (a:gU c e=some r) :
  FnM Tryz.prog 112 [(.d (.int .u64 c)),(vI e)] [] (vS r) []:=by
 refine FnM.of_wH ⟨Tryz.prog,32,[],[]⟩ rfl Tryz.func112 rfl rfl (lb_ rfl) (by kernel_rfl) ?_
 unfold gU at a
 refine ai (aa (vS (⟨#[]⟩:ByteArray)) (af (ak (ai (aa (vI e) (aa (vB (e==10)) (af ?_)))))))
 rcases aj a with⟨f,a⟩|⟨f,a⟩
 ·refine aA rfl f (ak (ai (aa (.d (.int .u64 c)) (aa (vB (decide (c<100))) (af ?_)))))
  rcases aj a with⟨g,a⟩|⟨g,a⟩
  ·refine aA rfl g (ai (aa (.d (.int .u64 c)) (oZ KV un3 rfl wz ?_)))
   cases a
  ·refine ay rfl g (ax (ai (Ku (List.replicate 24 (0:Int)) 0 (.inl rfl) z207 (by kernel_rfl) (by kernel_rfl) ab207 wz (λi=>af (ai (aa (.d (.int .u64 c)) ?_))))))
   cases a
 ·refine ay rfl f (ax (ai (aa (.d (.int .u64 c)) (aa (vI e) ?_))))
  obtain ⟨b,h,a⟩:=bind_some a
  refine aG (pz h) rfl hb138 rfl rfl rfl rfl wz (aa (.tup [(vL (eK .u8) b.1),(vS b.2)]) (aa (vL (eK .u8) b.1) (aa (vS b.2) (aa (vL (eK .u8) b.1) (aa (vS b.2) (af (ai (aa (vS b.2) (aa (vS b.2) (af ?_))))))))))
  obtain rfl:=ae a
  exact aC (aO [(vS b.2)] ⟨rfl,trivial⟩)
theorem wS {c:Int} {b:Int} {r:ByteArray} (a:jl c b=some r) :
  FnM Tryz.prog 79 [(.d (.int .u64 c)),(vI b)] [] (vS r) []:=by
 refine FnM.of_wH ⟨Tryz.prog,8,[],[]⟩ rfl Tryz.func79 rfl rfl (lb_ rfl) (by kernel_rfl) ?_
 unfold jl at a
 refine ai (aa (vS (⟨#[]⟩:ByteArray)) (af (ai (aa (.d (.int .u64 c)) (aa (vI b) ?_)))))
 obtain ⟨e,f,a⟩:=bind_some a
 refine aG (pQ f) rfl hb112 rfl rfl rfl rfl wz (aa (vS e) (af ?_))
 obtain rfl:=ae a
 exact aC (aO [(vS e)] ⟨rfl,trivial⟩)
theorem A8 {x0:ByteArray} {x1:Int} {r:ByteArray} (a:strings_Repeat x0 x1=some r) :
  FnM Tryz.prog 80 [(vS x0),(vI x1)] [] (vS r) [] :=
 OW rfl Tryz.strings_Repeat  a
theorem FV {c:ByteArray} {r:ByteArray} (b:pU c=some r) :
  FnM Tryz.prog 53 [(vS c)] [] (vS r) []:=by
 refine FnM.of_wH ⟨Tryz.prog,27,[],[]⟩ rfl Tryz.func53 rfl rfl (lb_ rfl) (by kernel_rfl) ?_
 unfold pU at b
 refine ai (aa (vS (⟨#[]⟩:ByteArray)) (af (ai (aa (.d (.int .u64 14695981039346656037)) (af (ak (ai (aa (vS c) (EL un9 rfl wz (aa (vI 0) (af ?_)))))))))))
 obtain ⟨z,l,b⟩:=bind_some b
 obtain ⟨o,l⟩:=bn l
 refine dB (λ(a:Int)=>[(3,(.d (.int .u64 a)))]) (λ(a:Int)=>[]) (λ(e:Nat)=>(λ(a:Int)=>[(0,(vS c)),(3,(.d (.int .u64 a))),(7,(vI (c.size:Int))),(8,(vI (e:Int)))])) (λk x s=>nG c k x s) z (List.range ((c.size:Int)).toNat) 14695981039346656037 l rfl (aK rfl) ?_ ?_
 ·rintro ⟨e,m,a⟩ ⟨g,f⟩
  dsimp only at g f
  cases m with
  | nil =>
   obtain rfl:=ae g
   refine ai (aa (vB (decide ((e:Int)<(c.size:Int)))) (af ?_))
   refine ak (ay rfl (pM f) (aY ?_))
   exact aW (a) rfl rfl (aK rfl)
  | cons F m =>
   obtain ⟨B,i,g⟩:=bind_some g
   refine ai (aa (vB (decide ((e:Int)<(c.size:Int)))) (af ?_))
   refine ak (aA rfl (ol f) (ax ?_))
   unfold nG at i
   refine ak (aQ (ai (aa (vI (e:Int)) (aa (vI (e:Int)) (af (au (aa (.d (.int .u64 a)) (aa (vS c) (aa (vI (e:Int)) ?_)))))))))
   obtain ⟨h,w,i⟩:=bind_some i
   refine zD un9 rfl rfl w wz (oZ un5 KV rfl wz (aa (.d (.int .u64 (O0 .u64 a (IntKind.u64.wrap (h.toNat:Int))))) (aa (.d (.int .u64 (IntKind.u64.wrap ((O0 .u64 a (IntKind.u64.wrap (h.toNat:Int)))*1099511628211)))) (aa (.d (.int .u64 (IntKind.u64.wrap ((O0 .u64 a (IntKind.u64.wrap (h.toNat:Int)))*1099511628211)))) (af (au (dS (pO f o) wz rfl (aa (vI ((e+1:Nat):Int)) (af ?_)))))))))
   obtain rfl:=ae i
   exact aZ (e+1,m,(IntKind.u64.wrap ((O0 .u64 a (IntKind.u64.wrap (h.toNat:Int)))*1099511628211))) ⟨g,aV f⟩ (ls_ _) rfl (aK rfl)
 ·rintro a p E A q t
  subst p
  refine aR _ q t (ai (aa (.d (.int .u64 a)) ?_))
  obtain ⟨j,u,b⟩:=bind_some b
  refine aG (wS u) rfl hb79 rfl rfl rfl rfl wz (aa (vS j) (af (ai (aa (vS j) (EL un9 rfl wz (aa (vI (w64 (16-(j.size:Int)))) ?_))))))
  obtain ⟨C,v,b⟩:=bind_some b
  refine aG (A8 v) rfl hb80 rfl rfl rfl rfl wz (aa (vS j) ?_)
  obtain ⟨n,y,b⟩:=bind_some b
  refine xD rfl rfl y wz (aa (vS n) (af ?_))
  obtain rfl:=ae b
  exact aC (aO [(vS n)] ⟨rfl,trivial⟩)
theorem Jy {c:ByteArray} {b:Log_} {r:ByteArray} (a:uL c b=some r) :
  FnM Tryz.prog 28 [(vS c),(.d (.agg (Log_.enc b)))] [] (vS r) []:=by
 refine FnM.of_wH ⟨Tryz.prog,11,[],[]⟩ rfl Tryz.func28 rfl rfl (lb_ rfl) (by kernel_rfl) ?_
 unfold uL at a
 refine ai (jU 0 (.inl rfl) (Log_.v b) rfl rfl wz (λj=>aa (vS (⟨#[]⟩:ByteArray)) (af (ai (aa (vS c) ?_)))))
 obtain ⟨l,h,a⟩:=bind_some a
 refine xD rfl rfl h wz (aH 0 0 il ft zR IV rfl rfl (.d (.agg (Log_.enc b))) rfl wz ?_)
 obtain ⟨k,g,a⟩:=bind_some a
 refine aG (FR g) rfl hb54 rfl rfl rfl rfl wz ?_
 obtain ⟨m,i,a⟩:=bind_some a
 refine xD rfl rfl i wz ?_
 obtain ⟨e,f,a⟩:=bind_some a
 refine aG (FV f) rfl hb53 rfl rfl rfl rfl wz (aa (vS e) (af ?_))
 obtain rfl:=ae a
 exact aC (aO [(vS e)] ⟨rfl,trivial⟩)
theorem oP {b:(List Log_)} {r:(List Log_)} (a:dU b=some r) :
  FnM Tryz.prog 26 [(vL Log_.enc b)] [] (gV (av 0) 6 r) (([]:List Box).map some++gO 6 Log_.enc r):=by
 refine FnM.of_wH ⟨Tryz.prog,8,[],[]⟩ rfl Tryz.func26 rfl rfl (lb_ rfl) (by kernel_rfl) ?_
 unfold dU at a
 refine ai (aa .nil (af (ak (ai (aa (vL Log_.enc b) (h_nileq Ja rfl wz (λd e=>af ?_)))))))
 cases d with
 | true =>
  refine aA rfl rfl ?_
  obtain rfl:=e rfl
  replace a:=O5 a
  refine ai (aa .nil (af (jJ (λh => ?_))))
  obtain rfl:=ae a
  exact aC (finG (outs:=([]:List Box)) (.inr rfl) 0 rfl rfl rfl (by kernel_rfl) (by kernel_rfl))
 | false =>
  refine ay rfl rfl (ax (ai (h_lit0 Au ez35 rfl wz (aa (vL Log_.enc b) ?_))))
  obtain ⟨c,f,a⟩:=bind_some a
  refine h_appn 0 (.inl rfl) el35 el35 zR z44 rfl (by decide) by44 (by decide) (λ_=>rfl) rfl rfl f wz (λg=>aa (gV g 6 c) (af ?_))
  obtain rfl:=ae a
  exact aC (finG (outs:=([]:List Box)) (.inr rfl) 0 rfl rfl rfl (by kernel_rfl) (by kernel_rfl))
theorem Em {z:ByteArray} {e:(List Log_)} {r:(List Log_)×Int} (g:mo z e=some r) :
  FnM Tryz.prog 8 [(vS z),(vL Log_.enc e)] [] (.tup [(vL Log_.enc r.1),(vI r.2)]) []:=by
 refine FnM.of_wH ⟨Tryz.prog,68,[],[]⟩ rfl Tryz.func8 rfl rfl (lb_ rfl) (by kernel_rfl) ?_
 unfold mo at g
 refine ai (aa .nil (aa (vI 0) (af (ak (ai (aa (vS z) ?_))))))
 obtain ⟨u,U,g⟩:=bind_some g
 refine aG (zn U) rfl hb25 rfl rfl rfl rfl wz (aa (vI u) (af (ai (aa (vI u) (aa (vB (u != 0)) (af ?_))))))
 rcases aj g with⟨H,g⟩|⟨H,g⟩
 ·refine aA rfl H (ai (aa (vI u) (aa .nil (aa (vI u) (af ?_)))))
  obtain rfl:=ae g
  exact aC (aO [.nil,(vI u)] ⟨rfl,⟨rfl,trivial⟩⟩)
 ·refine ay rfl H (ax (ak (ai (aa (vL Log_.enc e) (bQ Ja rfl wz (aa (vB (decide ((e.length:Int)>2000))) (af ?_)))))))
  rcases aj g with⟨I,g⟩|⟨I,g⟩
  ·refine aA rfl I (ai (aa .nil (aa (vI 2) (af ?_))))
   obtain rfl:=ae g
   exact aC (aO [.nil,(vI 2)] ⟨rfl,⟨rfl,trivial⟩⟩)
  ·refine ay rfl I (ax (ai (aa (vL Log_.enc e) ?_)))
   obtain ⟨N,W,g⟩:=bind_some g
   refine Nq [] (oP W) rfl hb26 rfl (by kernel_rfl) (by kernel_rfl) (by kernel_rfl) (by kernel_rfl) (by kernel_rfl) rfl (by decide) (by kernel_rfl) wz ([]:Hp) (λ_=>by kernel_rfl) (λh=>aa (gV h 6 N) (af (ak (ai (aa (vL Log_.enc e) (bQ Ja rfl wz (aa (vI 0) (af ?_))))))))
   obtain ⟨À,J,g⟩:=bind_some g
   obtain ⟨P,J⟩:=bn J
   refine dB (λ(b:(List Log_)×ByteArray)=>[(7,(gV h 6 b.1))]) (λ(b:(List Log_)×ByteArray)=>[(h,gB 6 Log_.enc b.1)]) (λ(c:Nat)=>(λ(b:(List Log_)×ByteArray)=>[(0,(vS b.2)),(1,(vL Log_.enc e)),(7,(gV h 6 b.1)),(21,(vL Log_.enc e)),(22,(vI (e.length:Int))),(23,(vI (c:Int)))])) (λk x s=>kN e k x s) À e (N,z) J rfl (aK rfl) ?_ ?_
   ·rintro ⟨c,K,b⟩ ⟨l,q⟩
    dsimp only at l q
    cases K with
    | nil =>
     obtain rfl:=ae l
     refine ai (aa (vB (decide ((c:Int)<(e.length:Int)))) (af ?_))
     refine ak (ay rfl (drop_nil q) (aY ?_))
     exact aW (b) rfl rfl (aK rfl)
    | cons i K =>
     obtain ⟨Ã,a,l⟩:=bind_some l
     refine ai (aa (vB (decide ((c:Int)<(e.length:Int)))) (af ?_))
     refine ak (aA rfl (bE q) (ax ?_))
     unfold kN at a
     refine ak (aQ (ai (aa (vI (c:Int)) (dI Au rfl rfl (bN q) rfl wz (bH zR IV rfl (.d (.agg (Log_.enc i))) rfl wz (dz 0 (.inl rfl) z44 rfl wz (λA=>aa (vI (c:Int)) (gp 0 il ft 1 zR rfl rfl (Log_.v i) rfl wz (af (ak (ai (aH 0 1 il ft zR IV rfl rfl (.d (.agg (Log_.enc i))) rfl wz ?_))))))))))))
     obtain ⟨t,R,a⟩:=bind_some a
     refine aG (tO R) rfl hb27 rfl rfl rfl rfl wz (aa (vI t) (af (ai (aa (vI t) (aa (vB (t != 0)) (af ?_))))))
     rcases aj a with⟨B,a⟩|⟨B,a⟩
     ·refine aA rfl B (ai (aa (vI t) (aa .nil (aa (vI t) (af ?_)))))
      obtain rfl:=ae a
      obtain rfl:=ae l
      obtain rfl:=ae g
      exact aC (aO [.nil,(vI t)] ⟨rfl,⟨rfl,trivial⟩⟩)
     ·refine ay rfl B (ax (ak (ak ?_)))
      obtain ⟨Á,n,a⟩:=bind_some a
      refine aU [(0,(vS b.2)),(1,(vL Log_.enc e)),(7,(gV h 6 b.1)),(8,(vI (c:Int))),(9,(.ref A 0 0)),(21,(vL Log_.enc e)),(22,(vI (e.length:Int))),(23,(vI (c:Int))),(43,(vB Á))] [(h,gB 6 Log_.enc b.1),(A,some (.cells 6 (Log_.v i)))] ?_ ?_
      ·refine bv (aa (vI (c:Int)) (aa (vB (decide ((c:Int)>0))) ?_))
       rcases aj n with⟨C,n⟩|⟨C,n⟩
       ·refine aB rfl C wz (aI ut rfl 0 rfl wa (aH 4 1 (.inr (by kernel_rfl)) (λ_ _ ag=>trivial) sz9 ag9 rfl rfl (vS i.Player) rfl wa (aL (vL Log_.enc e) wa rfl ?_)))
        obtain ⟨j,X,n⟩:=bind_some n
        refine dI Au rfl rfl X rfl wa (lQ ut rfl [.str j.Player,.str j.Item,.int .i64 j.No,.int .i64 j.Clock,.int .i64 j.Long,.str j.Sum] rfl rfl wa (bH sz9 ag9 rfl (vS j.Player) rfl wa (aL (vB (sNe i.Player j.Player)) wa rfl (aa (vB (sNe i.Player j.Player)) (af ?_)))))
        obtain rfl:=ae n
        exact cu
       ·refine aB rfl C wz (ah (ah (ah (ah (ah (ah (ah (aa (vB false) (af ?_)))))))))
        obtain rfl:=ae n
        exact cu
      ·rintro ⟨⟩ _ O L w y
       refine aR _ w y ?_
       rcases aj a with⟨E,a⟩|⟨E,a⟩
       ·refine aA rfl E (ai (aa .nil (aa (vI 13) (af ?_))))
        obtain rfl:=ae a
        obtain rfl:=ae l
        obtain rfl:=ae g
        exact aC (aO [.nil,(vI 13)] ⟨rfl,⟨rfl,trivial⟩⟩)
       ·refine ay rfl E (ax (ak (ak ?_)))
        obtain ⟨Â,o,a⟩:=bind_some a
        refine aU [(0,(vS b.2)),(1,(vL Log_.enc e)),(7,(gV h 6 b.1)),(8,(vI (c:Int))),(9,(.ref A 0 0)),(21,(vL Log_.enc e)),(22,(vI (e.length:Int))),(23,(vI (c:Int))),(57,(vB Â))] [(h,gB 6 Log_.enc b.1),(A,some (.cells 6 (Log_.v i)))] ?_ ?_
        ·refine bv (aa (vI (c:Int)) (aa (vB (decide ((c:Int)>0))) ?_))
         rcases aj o with⟨F,o⟩|⟨F,o⟩
         ·refine aB rfl F wz (aI BA rfl 2 rfl wa (aH 4 1 (.inr (by kernel_rfl)) (λ_ _ ag=>trivial) sz3 ag3 rfl rfl (vI i.No) rfl wa (aL (vL Log_.enc e) wa rfl (aL (vI (c:Int)) wa rfl (aL (vI (w64 ((c:Int)-1))) wa rfl ?_)))))
          obtain ⟨m,Y,o⟩:=bind_some o
          refine dI Au rfl rfl Y rfl wa (lQ BA rfl [.int .i64 m.No,.int .i64 m.Clock,.int .i64 m.Long,.str m.Sum] rfl rfl wa (bH sz3 ag3 rfl (vI m.No) rfl wa (aL (vI (w64 (m.No+1))) wa rfl (aL (vB (i.No != (w64 (m.No+1)))) wa rfl (aa (vB (i.No != (w64 (m.No+1)))) (af ?_))))))
          obtain rfl:=ae o
          exact cu
         ·refine aB rfl F wz (ah (ah (ah (ah (ah (ah (ah (ah (ah (ah (aa (vB false) (af ?_))))))))))))
          obtain rfl:=ae o
          exact cu
        ·rintro ⟨⟩ _ O L w y
         refine aR _ w y ?_
         rcases aj a with⟨G,a⟩|⟨G,a⟩
         ·refine aA rfl G (ai (aa .nil (aa (vI 16) (af ?_))))
          obtain rfl:=ae a
          obtain rfl:=ae l
          obtain rfl:=ae g
          exact aC (aO [.nil,(vI 16)] ⟨rfl,⟨rfl,trivial⟩⟩)
         ·refine ay rfl G (ax (ai (aa (vS b.2) (aH 0 1 il ft zR IV rfl rfl (.d (.agg (Log_.enc i))) rfl wz ?_))))
          obtain ⟨p,T,a⟩:=bind_some a
          refine aG (Jy T) rfl hb28 rfl rfl rfl rfl wz (aa (vS p) (af (au (aa (gV h 6 b.1) (aa (vI (c:Int)) (aa (vS p) ?_))))))
          obtain ⟨_,M,a⟩:=bind_some a
          refine jv Au rfl rfl (fF M) (dC M) wz (aI QI rfl 5 rfl wz ?_)
          obtain ⟨f,Z,a⟩:=bind_some a
          refine vC 0 il ft 0 sz9 rfl rfl Z (⟨f.Player,f.Item,f.No,f.Clock,f.Long,p⟩:Log_) rfl wz (fK (v':=(gV h 6 (b.1.set (0+((c:Int)).toNat) (⟨f.Player,f.Item,f.No,f.Clock,f.Long,p⟩:Log_)))) 7 rfl (kW (by simp)) (fK (v':=(gV h 6 (b.1.set (0+((c:Int)).toNat) (⟨f.Player,f.Item,f.No,f.Clock,f.Long,p⟩:Log_)))) 61 rfl (kW (by simp)) (af (au (dS (bC q P) wz rfl (aa (vI ((c+1:Nat):Int)) (af ?_)))))))
          obtain rfl:=ae a
          exact aZ (c+1,K,((b.1.set (0+((c:Int)).toNat) (⟨f.Player,f.Item,f.No,f.Clock,f.Long,p⟩:Log_)),p)) ⟨l,aV q⟩ (ls_ _) rfl (aK rfl)
   ·rintro b Q O L w y
    subst Q
    refine aR _ w y (ai (aa (gV h 6 b.1) (aa (gV h 6 b.1) (aa (vI 0) (af (fQ 0 rfl (dx 4 0 rfl rfl (dx 7 0 rfl rfl (dx 67 0 rfl rfl ?_)))))))))
    obtain rfl:=ae g
    exact aC (aO [(vL Log_.enc b.1),(vI 0)] ⟨rfl,⟨rfl,trivial⟩⟩)
theorem xM {b:Log_} {c:Log_} {r:Int} (a:jT b c=some r) :
  FnM Tryz.prog 55 [(.d (.agg (Log_.enc b))),(.d (.agg (Log_.enc c)))] [] (vI r) []:=by
 refine FnM.of_wH ⟨Tryz.prog,17,[],[]⟩ rfl Tryz.func55 rfl rfl (lb_ rfl) (by kernel_rfl) ?_
 unfold jT at a
 refine ai (jU 0 (.inl rfl) (Log_.v b) rfl rfl wz (λk=>jU 0 (.inl rfl) (Log_.v c) rfl rfl wz (λl=>aa (vI 0) (af (ak (bv (aI ut rfl 0 rfl wz (aH 1 0 (.inr (by kernel_rfl)) (λ_ _ ag=>trivial) sz9 ag9 rfl rfl (vS b.Player) rfl wz (aI ut rfl 0 rfl wz (aH 3 1 (.inr (by kernel_rfl)) (λ_ _ ag=>⟨.inl ⟨rfl,rfl⟩,trivial⟩) sz9 ag9 rfl rfl (vS c.Player) rfl wz ?_))))))))))
 obtain ⟨i,g,a⟩:=bind_some a
 refine aG (sH g) rfl hb83 rfl rfl rfl rfl wz (aI BA rfl 2 rfl wz (aH 6 0 (.inr (by kernel_rfl)) (λ_ _ ag=>⟨.inl ⟨rfl,rfl⟩,⟨.inl ⟨rfl,rfl⟩,trivial⟩⟩) sz3 ag3 rfl rfl (vI b.No) rfl wz (aI BA rfl 2 rfl wz (aH 8 1 (.inr (by kernel_rfl)) (λ_ _ ag=>⟨.inl ⟨rfl,rfl⟩,⟨.inl ⟨rfl,rfl⟩,⟨.inl ⟨rfl,rfl⟩,trivial⟩⟩⟩) sz3 ag3 rfl rfl (vI c.No) rfl wz ?_))))
 obtain ⟨j,h,a⟩:=bind_some a
 refine aG (nY h) rfl hb61 rfl rfl rfl rfl wz (gL (([i,j]:List Int).map eI) ic AV rfl rfl rfl rfl rfl wz ?_)
 obtain ⟨e,f,a⟩:=bind_some a
 refine aG (yS f) rfl hb82 rfl rfl rfl rfl wz (aa (vI e) (af ?_))
 obtain rfl:=ae a
 exact aC (aO [(vI e)] ⟨rfl,trivial⟩)
theorem zm {b:(List Log_)} {r:Int} (e:jL b=some r) :
  FnM Tryz.prog 29 [(vL Log_.enc b)] [] (vI r) []:=by
 refine FnM.of_wH ⟨Tryz.prog,38,[],[]⟩ rfl Tryz.func29 rfl rfl (lb_ rfl) (by kernel_rfl) ?_
 unfold jL at e
 refine ai (aa (vI 0) (af (ak (ai (aa (vL Log_.enc b) (bQ Ja rfl wz (aa (vB (decide ((b.length:Int)>2000))) (af ?_))))))))
 rcases aj e with⟨o,e⟩|⟨o,e⟩
 ·refine aA rfl o (ai (aa (vI 2) (af ?_)))
  obtain rfl:=ae e
  exact aC (aO [(vI 2)] ⟨rfl,trivial⟩)
 ·refine ay rfl o (ax (ak (ai (aa (vL Log_.enc b) (bQ Ja rfl wz (aa (vI 0) (af ?_)))))))
  obtain ⟨J,t,e⟩:=bind_some e
  obtain ⟨B,t⟩:=bn t
  refine dB (λ(l:Unit)=>[]) (λ(l:Unit)=>[]) (λ(c:Nat)=>(λ(l:Unit)=>[(0,(vL Log_.enc b)),(9,(vL Log_.enc b)),(10,(vI (b.length:Int))),(11,(vI (c:Int)))])) (λk x s=>kZ b k x s) J b () t rfl (aK rfl) ?_ ?_
  ·rintro ⟨c,y,l⟩ ⟨g,h⟩
   dsimp only at g h
   cases y with
   | nil =>
    obtain rfl:=ae g
    refine ai (aa (vB (decide ((c:Int)<(b.length:Int)))) (af ?_))
    refine ak (ay rfl (drop_nil h) (aY ?_))
    exact aW (l) rfl rfl (aK rfl)
   | cons j y =>
    obtain ⟨O,a,g⟩:=bind_some g
    refine ai (aa (vB (decide ((c:Int)<(b.length:Int)))) (af ?_))
    refine ak (aA rfl (bE h) (ax ?_))
    unfold kZ at a
    refine ak (aQ (ai (aa (vI (c:Int)) (dI Au rfl rfl (bN h) rfl wz (bH zR IV rfl (.d (.agg (Log_.enc j))) rfl wz (dz 0 (.inl rfl) z44 rfl wz (λI=>aa (vI (c:Int)) (gp 0 il ft 0 zR rfl rfl (Log_.v j) rfl wz (af (ak (ai (aH 0 0 il ft zR IV rfl rfl (.d (.agg (Log_.enc j))) rfl wz ?_))))))))))))
    obtain ⟨i,E,a⟩:=bind_some a
    refine aG (tO E) rfl hb27 rfl rfl rfl rfl wz (aa (vI i) (af (ai (aa (vI i) (aa (vB (i != 0)) (af ?_))))))
    rcases aj a with⟨m,a⟩|⟨m,a⟩
    ·refine aA rfl m (ai (aa (vI i) (aa (vI i) (af ?_))))
     obtain rfl:=ae a
     obtain rfl:=ae g
     obtain rfl:=ae e
     exact aC (aO [(vI i)] ⟨rfl,trivial⟩)
    ·refine ay rfl m (ax (ak (ai (aI QI rfl 5 rfl wz (aH 0 0 il ft sz9 ag9 rfl rfl (vS j.Sum) rfl wz ?_)))))
     obtain ⟨K,F,a⟩:=bind_some a
     refine aG (wC F) rfl hb51 rfl rfl rfl rfl wz (aa (vB (!K)) (af ?_))
     rcases aj a with⟨n,a⟩|⟨n,a⟩
     ·refine aA rfl n (ai (aa (vI 3) (af ?_)))
      obtain rfl:=ae a
      obtain rfl:=ae g
      obtain rfl:=ae e
      exact aC (aO [(vI 3)] ⟨rfl,trivial⟩)
     ·refine ay rfl n (ax (ak ?_))
      obtain ⟨M,f,a⟩:=bind_some a
      refine aU [(0,(vL Log_.enc b)),(9,(vL Log_.enc b)),(10,(vI (b.length:Int))),(11,(vI (c:Int))),(36,(vB M))] [(I,some (.cells 6 (Log_.v j)))] ?_ ?_
      ·refine bv (aa (vI (c:Int)) (aa (vB (decide ((c:Int)>0))) ?_))
       rcases aj f with⟨p,f⟩|⟨p,f⟩
       ·refine aB rfl p wz (aL (vL Log_.enc b) wa rfl (aL (vI (c:Int)) wa rfl (aL (vI (w64 ((c:Int)-1))) wa rfl ?_)))
        obtain ⟨N,H,f⟩:=bind_some f
        refine dI Au rfl rfl H rfl wa (bH zR IV rfl (.d (.agg (Log_.enc N))) rfl wa (aH 8 0 (.inr (by kernel_rfl)) (λ_ _ ag=>trivial) zR IV rfl rfl (.d (.agg (Log_.enc j))) rfl wa ?_))
        obtain ⟨z,G,f⟩:=bind_some f
        refine aG (xM G) rfl hb55 rfl rfl rfl rfl wa (aL (vB (decide (z>=0))) wa rfl (aa (vB (decide (z>=0))) (af ?_)))
        obtain rfl:=ae f
        exact cu
       ·refine aB rfl p wz (ah (ah (ah (ah (ah (ah (ah (ah (aa (vB false) (af ?_))))))))))
        obtain rfl:=ae f
        exact cu
      ·rintro ⟨⟩ _ L A u w
       refine aR _ u w ?_
       rcases aj a with⟨q,a⟩|⟨q,a⟩
       ·refine aA rfl q (ai (aa (vI 7) (af ?_)))
        obtain rfl:=ae a
        obtain rfl:=ae g
        obtain rfl:=ae e
        exact aC (aO [(vI 7)] ⟨rfl,trivial⟩)
       ·refine ay rfl q (ax (au (dS (bC h B) wz rfl (aa (vI ((c+1:Nat):Int)) (af ?_)))))
        obtain rfl:=ae a
        exact aZ (c+1,y,()) ⟨g,aV h⟩ (ls_ _) rfl (aK rfl)
  ·rintro l C L A u w
   subst C
   refine aR _ u w (ai (aa (vI 0) (af ?_)))
   obtain rfl:=ae e
   exact aC (aO [(vI 0)] ⟨rfl,trivial⟩)
theorem yE {a:Placed} {b:Placed} {r:Int} (c:kw a b=some r) :
  FnM Tryz.prog 60 [(.d (.agg (Placed.enc a))),(.d (.agg (Placed.enc b)))] [] (vI r) []:=by
 refine FnM.of_wH ⟨Tryz.prog,10,[],[]⟩ rfl Tryz.func60 rfl rfl (lb_ rfl) (by kernel_rfl) ?_
 unfold kw at c
 refine ai (jU 0 (.inl rfl) [(vI a.f_i),(vI a.f_at)] rfl rfl wz (λg=>jU 0 (.inl rfl) [(vI b.f_i),(vI b.f_at)] rfl rfl wz (λh=>aa (vI 0) (af (ai (aI Jq rfl 1 rfl wz (aH 0 0 il ft sz3 ag3 rfl rfl (vI a.f_at) rfl wz (aI Jq rfl 1 rfl wz (aH 0 1 il ft sz3 ag3 rfl rfl (vI b.f_at) rfl wz ?_)))))))))
 obtain ⟨e,f,c⟩:=bind_some c
 refine aG (nY f) rfl hb61 rfl rfl rfl rfl wz (aa (vI e) (af ?_))
 obtain rfl:=ae c
 exact aC (aO [(vI e)] ⟨rfl,trivial⟩)
theorem fU {k:(List Placed)} {f:Int} {h:Int} {r:(List Placed)} (p:cB k f h=some r) :
  FnM Tryz.prog 121 [(dV (av 0) 2 k),(vI f),(vI h),(.fn 60 [])] (([]:List Box)++gI 2 Placed.enc k) (.tup []) (([]:List Box).map some++gT k (gB 2 Placed.enc r)):=by
 refine FnM.of_wHv ⟨Tryz.prog,53,[],[]⟩ rfl Tryz.func121 rfl rfl (lb_ rfl) (by kernel_rfl) ?_
 unfold cB at p
 refine ai (aa (vI f) (aa (vI (w64 (f+1))) (aa (vI (w64 (f+1))) (af ?_))))
 obtain ⟨Z,y,p⟩:=bind_some p
 obtain ⟨Y,y⟩:=bW y
 refine dY (λ(c:(List Placed)×Int)=>[]) (λ(c:(List Placed)×Int)=>[((av 0),gB 2 Placed.enc c.1)]) (λ(u:Nat)=>(λ(c:(List Placed)×Int)=>[(0,(dV (av 0) 2 c.1)),(1,(vI f)),(2,(vI h)),(3,(.fn 60 [])),(8,(vI c.2))])) (λs=>dD h f s) Z Y (k,(w64 (f+1))) y rfl (aK rfl) ?_ ?_
 ·rintro ⟨u,c⟩ l
  dsimp only at l
  cases u with
  | zero=>cases l
  | succ u =>
   obtain ⟨L,j,l⟩:=bind_some l
   unfold dD at j
   refine ak (ai (aa (vI c.2) (aa (vI h) (aa (vB (decide (c.2<h))) (af ?_)))))
   rcases aj j with⟨v,j⟩|⟨v,j⟩
   ·refine aA rfl v (ax (ak (aQ (ai (aa (vI c.2) (aa (vI c.2) (af ?_)))))))
    obtain ⟨À,z,j⟩:=bind_some j
    obtain ⟨X,z⟩:=bW z
    refine dY (λ(a:(List Placed)×Int)=>[(0,(dV (av 0) 2 a.1)),(1,(vI f)),(2,(vI h)),(3,(.fn 60 [])),(8,(vI c.2))]) (λ(a:(List Placed)×Int)=>[((av 0),gB 2 Placed.enc a.1)]) (λ(t:Nat)=>(λ(a:(List Placed)×Int)=>[(0,(dV (av 0) 2 a.1)),(1,(vI f)),(2,(vI h)),(3,(.fn 60 [])),(8,(vI c.2)),(9,(vI a.2))])) (λs=>dE f s) À X (c.1,c.2) z rfl (aK rfl) ?_ ?_
    ·rintro ⟨t,a⟩ m
     dsimp only at m
     cases t with
     | zero=>cases m
     | succ t =>
      obtain ⟨L,b,m⟩:=bind_some m
      unfold dE at b
      refine ak (ak ?_)
      obtain ⟨Á,e,b⟩:=bind_some b
      refine aU [(0,(dV (av 0) 2 a.1)),(1,(vI f)),(2,(vI h)),(3,(.fn 60 [])),(8,(vI c.2)),(9,(vI a.2)),(34,(vB Á))] [((av 0),gB 2 Placed.enc a.1)] ?_ ?_
      ·refine bv (aa (vI a.2) (aa (vI f) (aa (vB (decide (a.2>f))) ?_)))
       rcases aj e with⟨w,e⟩|⟨w,e⟩
       ·refine aB rfl w wz (aL (.fn 60 []) wa rfl (aL (dV (av 0) 2 a.1) wa rfl (aL (vI a.2) wa rfl ?_)))
        obtain ⟨_,C,e⟩:=bind_some e
        refine o9 IQ rfl rfl (fF C) (dC C) wa ?_
        obtain ⟨M,P,e⟩:=bind_some e
        refine nU 8 0 (.inr (by kernel_rfl)) (λ_ _ ag=>trivial) F7 Q8 rfl rfl P (.d (.agg (Placed.enc M))) rfl wa (aL (dV (av 0) 2 a.1) wa rfl (aL (vI a.2) wa rfl (aL (vI (w64 (a.2-1))) wa rfl ?_)))
        obtain ⟨_,E,e⟩:=bind_some e
        refine o9 IQ rfl rfl (fF E) (dC E) wa ?_
        obtain ⟨N,Q,e⟩:=bind_some e
        refine nU 13 0 (.inr (by kernel_rfl)) (λ_ _ ag=>⟨.inl ⟨rfl,rfl⟩,trivial⟩) F7 Q8 rfl rfl Q (.d (.agg (Placed.enc N))) rfl wa ?_
        obtain ⟨J,O,e⟩:=bind_some e
        refine aG (yE O) rfl hb60 rfl rfl rfl rfl wa (aL (vB (decide (J<0))) wa rfl (aa (vB (decide (J<0))) (af ?_)))
        obtain rfl:=ae e
        exact cu
       ·refine aB rfl w wz (ah (ah (ah (ah (ah (ah (ah (ah (ah (ah (ah (ah (aa (vB false) (af ?_))))))))))))))
        obtain rfl:=ae e
        exact cu
      ·rintro ⟨⟩ _ K B q n
       refine aR _ q n ?_
       rcases aj b with⟨x,b⟩|⟨x,b⟩
       ·refine aA rfl x (ax (ak (aQ (bv (aa (dV (av 0) 2 a.1) (aa (vI a.2) (aa (dV (av 0) 2 a.1) (aa (vI a.2) (aa (vI (w64 (a.2-1))) (aa (dV (av 0) 2 a.1) (aa (vI a.2) (aa (vI (w64 (a.2-1))) ?_))))))))))))
        obtain ⟨_,F,b⟩:=bind_some b
        refine o9 IQ rfl rfl (fF F) (dC F) wz ?_
        obtain ⟨g,R,b⟩:=bind_some b
        refine nU 9 0 (.inr (by kernel_rfl)) (λ_ _ ag=>trivial) F7 Q8 rfl rfl R (.d (.agg (Placed.enc g))) rfl wz (aa (dV (av 0) 2 a.1) (aa (vI a.2) ?_))
        obtain ⟨_,G,b⟩:=bind_some b
        refine o9 IQ rfl rfl (fF G) (dC G) wz ?_
        obtain ⟨i,T,b⟩:=bind_some b
        refine nU 13 0 (.inr (by kernel_rfl)) (λ_ _ ag=>⟨.inl ⟨rfl,rfl⟩,trivial⟩) F7 Q8 rfl rfl T (.d (.agg (Placed.enc i))) rfl wz ?_
        obtain ⟨_,H,b⟩:=bind_some b
        refine o9 IQ rfl rfl (fF H) (dC H) wz ?_
        obtain ⟨Â,U,b⟩:=bind_some b
        refine vC 15 (.inr (by kernel_rfl)) (λ_ _ ag=>⟨.inr (.inr (by kernel_rfl)),⟨.inr (.inr (by kernel_rfl)),trivial⟩⟩) 0 F7 rfl rfl U g rfl wz (fK (v':=(dV (av 0) 2 (a.1.set (0+(a.2).toNat) g))) 0 rfl (fT (by simp)) (fK (v':=(dV (av 0) 2 (a.1.set (0+(a.2).toNat) g))) 37 rfl (fT (by simp)) (fK (v':=(dV (av 0) 2 (a.1.set (0+(a.2).toNat) g))) 39 rfl (fT (by simp)) (fK (v':=(dV (av 0) 2 (a.1.set (0+(a.2).toNat) g))) 42 rfl (fT (by simp)) (fK (v':=(dV (av 0) 2 (a.1.set (0+(a.2).toNat) g))) 47 rfl (fT (by simp)) ?_)))))
        obtain ⟨_,I,b⟩:=bind_some b
        refine o9 IQ rfl rfl (fF I) (dC I) wz ?_
        obtain ⟨Ã,W,b⟩:=bind_some b
        refine vC 17 (.inr (by kernel_rfl)) (λ_ _ ag=>⟨.inr (.inr (by kernel_rfl)),⟨.inr (.inr (by kernel_rfl)),⟨.inr (.inr (by kernel_rfl)),trivial⟩⟩⟩) 0 F7 rfl rfl W i rfl wz (fK (v':=(dV (av 0) 2 ((a.1.set (0+(a.2).toNat) g).set (0+((w64 (a.2-1))).toNat) i))) 0 rfl (fT (by simp)) (fK (v':=(dV (av 0) 2 ((a.1.set (0+(a.2).toNat) g).set (0+((w64 (a.2-1))).toNat) i))) 37 rfl (fT (by simp)) (fK (v':=(dV (av 0) 2 ((a.1.set (0+(a.2).toNat) g).set (0+((w64 (a.2-1))).toNat) i))) 39 rfl (fT (by simp)) (fK (v':=(dV (av 0) 2 ((a.1.set (0+(a.2).toNat) g).set (0+((w64 (a.2-1))).toNat) i))) 42 rfl (fT (by simp)) (fK (v':=(dV (av 0) 2 ((a.1.set (0+(a.2).toNat) g).set (0+((w64 (a.2-1))).toNat) i))) 47 rfl (fT (by simp)) (af (au (aa (vI a.2) (aa (vI (w64 (a.2-1))) (aa (vI (w64 (a.2-1))) (af ?_)))))))))))
        obtain rfl:=ae b
        exact aZ (t,(((a.1.set (0+(a.2).toNat) g).set (0+((w64 (a.2-1))).toNat) i),(w64 (a.2-1)))) m (ls_ _) rfl (aK rfl)
       ·refine ay rfl x (aY ?_)
        obtain rfl:=ae b
        obtain rfl:=ae m
        exact aW ((a.1,a.2)) rfl rfl (aK rfl)
    ·rintro a A K B q n
     subst A
     refine aR _ q n (au (aa (vI c.2) (aa (vI (w64 (c.2+1))) (aa (vI (w64 (c.2+1))) (af ?_)))))
     obtain rfl:=ae j
     exact aZ (u,(a.1,(w64 (c.2+1)))) l (ls_ _) rfl (aK rfl)
   ·refine ay rfl v (aY ?_)
    obtain rfl:=ae j
    obtain rfl:=ae l
    exact aW ((c.1,c.2)) rfl rfl (aK rfl)
 ·rintro c A K B q n
  subst A
  show sW _ _ _ _ _ _ _ _
  obtain rfl:=ae p
  exact Dy (H0:=([((av 0),gB 2 Placed.enc c.1)]:Hp)) (sl':=envS []) n (qI (bs:=([]:List Box)) (os:=([]:List Box)) (xs:=k) (o:=gB 2 Placed.enc c.1) (.inl rfl) [] trivial rfl rfl rfl rfl rfl (by kernel_rfl) q8 rfl)
theorem lW {i:(List Placed)} {c:Int} {r:(List Placed)} (e:dK i c=some r) :
  FnM Tryz.prog 84 [(dV (av 0) 2 i),(vI c),(.fn 60 [])] (([]:List Box)++gI 2 Placed.enc i) (.tup []) (([]:List Box).map some++gT i (gB 2 Placed.enc r)):=by
 refine FnM.of_wHv ⟨Tryz.prog,63,[],[]⟩ rfl Tryz.func84 rfl rfl (lb_ rfl) (by kernel_rfl) ?_
 unfold dK at e
 refine ai (aa (vI 20) (af (ai (aa (vI 20) (aa (vI 0) (aa (vI 20) (af (ak ?_))))))))
 obtain ⟨Q,F,e⟩:=bind_some e
 obtain ⟨P,F⟩:=bW F
 refine dY (λ(b:(List Placed)×Int×Int)=>[(0,(dV (av 0) 2 b.1)),(1,(vI c)),(2,(.fn 60 [])),(6,(vI 20)),(7,(vI b.2.1))]) (λ(b:(List Placed)×Int×Int)=>[((av 0),gB 2 Placed.enc b.1)]) (λ(w:Nat)=>(λ(b:(List Placed)×Int×Int)=>[(0,(dV (av 0) 2 b.1)),(1,(vI c)),(2,(.fn 60 [])),(6,(vI 20)),(7,(vI b.2.1)),(8,(vI b.2.2))])) (λs=>eO c s) Q P (i,0,20) F rfl (aK rfl) ?_ ?_
 ·rintro ⟨w,b⟩ j
  dsimp only at j
  cases w with
  | zero=>cases j
  | succ w =>
   obtain ⟨K,f,j⟩:=bind_some j
   unfold eO at f
   refine ak (ai (aa (vI b.2.2) (aa (vI c) (aa (vB (decide (b.2.2<=c))) (af ?_)))))
   rcases aj f with⟨A,f⟩|⟨A,f⟩
   ·refine aA rfl A (ax (aQ (ai (aa (dV (av 0) 2 b.1) (aa (vI b.2.1) (aa (vI b.2.2) (aa (.fn 60 []) ?_)))))))
    obtain ⟨x,L,f⟩:=bind_some f
    obtain ⟨_,t,f⟩:=bind_some f
    replace t:=lH t
    refine qb 0 [] 0 0 il ft (fU L) rfl hb121 rfl rfl rfl (by kernel_rfl) rfl (.inr (.inl rfl)) rfl (by kernel_rfl) (by kernel_rfl) (by kernel_rfl) (by kernel_rfl) rfl (by decide) (by kernel_rfl) q8 (A9 t) wz ([((av 0),gB 2 Placed.enc x)]:Hp) (by kernel_rfl) (fK (v':=(dV (av 0) 2 x)) 0 rfl (fT t.symm) (fK (v':=(dV (av 0) 2 x)) 14 rfl (fT t.symm) (af (ai (aa (vI b.2.2) (aa (vI b.2.2) (af (au (aa (vI b.2.2) (aa (vI 20) (aa (vI (w64 (b.2.2+20))) (aa (vI (w64 (b.2.2+20))) (af ?_)))))))))))))
    obtain rfl:=ae f
    exact aZ (w,(x,b.2.2,(w64 (b.2.2+20)))) j (ls_ _) rfl (aK rfl)
   ·refine ay rfl A (aY ?_)
    obtain rfl:=ae f
    obtain rfl:=ae j
    exact aW ((b.1,b.2.1,b.2.2)) rfl rfl (aK rfl)
 ·rintro b q J z m h
  subst q
  refine aR _ m h (ai (aa (dV (av 0) 2 b.1) (aa (vI b.2.1) (aa (vI c) (aa (.fn 60 []) ?_)))))
  obtain ⟨d,M,e⟩:=bind_some e
  obtain ⟨_,u,e⟩:=bind_some e
  replace u:=lH u
  refine qb 0 [] 0 0 il ft (fU M) rfl hb121 rfl rfl rfl (by kernel_rfl) rfl (.inr (.inl rfl)) rfl (by kernel_rfl) (by kernel_rfl) (by kernel_rfl) (by kernel_rfl) rfl (by decide) (by kernel_rfl) q8 (A9 u) wz ([((av 0),gB 2 Placed.enc d)]:Hp) (by kernel_rfl) (fK (v':=(dV (av 0) 2 d)) 0 rfl (fT u.symm) (fK (v':=(dV (av 0) 2 d)) 23 rfl (fT u.symm) (af ?_)))
  obtain ⟨R,G,e⟩:=bind_some e
  obtain ⟨O,G⟩:=bW G
  refine dY (λ(a:Int)=>[]) (λ(a:Int)=>[((av 0),gB 2 Placed.enc d)]) (λ(v:Nat)=>(λ(a:Int)=>[(0,(dV (av 0) 2 d)),(1,(vI c)),(2,(.fn 60 [])),(6,(vI a))])) (λs=>eG c s) R O 20 G rfl (aK rfl) ?_ ?_
  ·rintro ⟨v,a⟩ k
   dsimp only at k
   cases v with
   | zero=>cases k
   | succ v =>
    obtain ⟨K,g,k⟩:=bind_some k
    unfold eG at g
    refine ak (ai (aa (vI a) (aa (vI c) (aa (vB (decide (a<c))) (af ?_)))))
    rcases aj g with⟨B,g⟩|⟨B,g⟩
    ·refine aA rfl B (ax (aQ (ai (aa (vI a) (aa (vI (w64 (2*a))) (aa (vI 0) (aa (vI (w64 (2*a))) (af (ak ?_)))))))))
     obtain ⟨T,H,g⟩:=bind_some g
     obtain ⟨N,H⟩:=bW H
     refine dY (λ(y:Unit)=>[(0,(dV (av 0) 2 d)),(1,(vI c)),(2,(.fn 60 [])),(6,(vI a)),(7,(vI 0))]) (λ(y:Unit)=>[((av 0),gB 2 Placed.enc d)]) (λ(I:Nat)=>(λ(y:Unit)=>[(0,(dV (av 0) 2 d)),(1,(vI c)),(2,(.fn 60 [])),(6,(vI a)),(7,(vI 0)),(8,(vI (w64 (2*a))))])) (λs=>eF a c s) T N () H rfl (aK rfl) ?_ ?_
     ·rintro ⟨I,y⟩ n
      dsimp only at n
      cases I with
      | zero=>cases n
      | succ I =>
       obtain ⟨K,l,n⟩:=bind_some n
       unfold eF at l
       refine ak (ai (aa (vI (w64 (2*a))) (aa (vI c) (aa (vB (decide ((w64 (2*a))<=c))) (af ?_)))))
       rcases aj l with⟨C,l⟩|⟨C,l⟩
       ·refine aA rfl C (ax (aQ (ai (aa (dV (av 0) 2 d) (aa (vI 0) (aa (vI 0) (aa (vI a) (aa (vI (w64 (0+a))) (aa (vI (w64 (2*a))) (aa (.fn 60 []) ?_))))))))))
        cases l
       ·refine ay rfl C (aY ?_)
        obtain rfl:=ae l
        obtain rfl:=ae n
        exact aW (()) rfl rfl (aK rfl)
     ·rintro y q J z m h
      subst q
      refine aR _ m h (ak (ai (aa (vI 0) (aa (vI a) (aa (vI (w64 (0+a))) (aa (vI (w64 (0+a))) (af (ai (aa (vI (w64 (0+a))) (aa (vI c) (aa (vB (decide ((w64 (0+a))<c))) (af ?_))))))))))))
      obtain ⟨U,p,g⟩:=bind_some g
      refine aU [(0,(dV (av 0) 2 d)),(1,(vI c)),(2,(.fn 60 [])),(6,(vI a))] [((av 0),gB 2 Placed.enc d)] ?_ ?_
      ·rcases aj p with⟨E,p⟩|⟨E,p⟩
       ·refine aA rfl E (au (aa (dV (av 0) 2 d) (aa (vI 0) (aa (vI (w64 (0+a))) (aa (vI c) (aa (.fn 60 []) ?_))))))
        cases p
       ·refine ay rfl E (ax ?_)
        obtain rfl:=ae p
        exact cu
      ·rintro ⟨⟩ _ J z m h
       refine aR _ m h (au (aa (vI a) (aa (vI (w64 (a*2))) (aa (vI (w64 (a*2))) (af ?_)))))
       obtain rfl:=ae g
       exact aZ (v,(w64 (a*2))) k (ls_ _) rfl (aK rfl)
    ·refine ay rfl B (aY ?_)
     obtain rfl:=ae g
     obtain rfl:=ae k
     exact aW (a) rfl rfl (aK rfl)
  ·rintro a q J z m h
   subst q
   show sW _ _ _ _ _ _ _ _
   obtain rfl:=ae e
   exact Dy (H0:=([((av 0),gB 2 Placed.enc d)]:Hp)) (sl':=envS []) h (qI (bs:=([]:List Box)) (os:=([]:List Box)) (xs:=i) (o:=gB 2 Placed.enc d) (.inl rfl) [] trivial rfl rfl rfl rfl rfl (by kernel_rfl) q8 rfl)
theorem ja {a:(List Placed)} {r:(List Placed)} (b:bB a=some r) :
  FnM Tryz.prog 59 [(dV (av 0) 2 a),(.fn 60 [])] (([]:List Box)++gI 2 Placed.enc a) (.tup []) (([]:List Box).map some++gT a (gB 2 Placed.enc r)):=by
 refine FnM.of_wHv ⟨Tryz.prog,9,[],[]⟩ rfl Tryz.func59 rfl rfl (lb_ rfl) (by kernel_rfl) ?_
 unfold bB at b
 refine au (aa (dV (av 0) 2 a) (aa (dV (av 0) 2 a) (Jj un94 rfl wz (aa (.fn 60 []) ?_))))
 obtain ⟨d,e,b⟩:=bind_some b
 obtain ⟨_,c,b⟩:=bind_some b
 replace c:=lH c
 refine qb 0 [] 0 0 il ft (lW e) rfl hb84 rfl rfl rfl (by kernel_rfl) rfl (.inr (.inl rfl)) rfl (by kernel_rfl) (by kernel_rfl) (by kernel_rfl) (by kernel_rfl) rfl (by decide) (by kernel_rfl) q8 (A9 c) wz ([((av 0),gB 2 Placed.enc d)]:Hp) (by kernel_rfl) (fK (v':=(dV (av 0) 2 d)) 0 rfl (fT c.symm) (fK (v':=(dV (av 0) 2 d)) 4 rfl (fT c.symm) (fK (v':=(dV (av 0) 2 d)) 5 rfl (fT c.symm) (af ?_))))
 show sW _ _ _ _ _ _ _ _
 obtain rfl:=ae b
 exact qI (bs:=([]:List Box)) (os:=([]:List Box)) (xs:=a) (o:=gB 2 Placed.enc d) (.inl rfl) [] trivial rfl rfl rfl rfl rfl (by kernel_rfl) q8 rfl
theorem AA {j:(List Log_)} {m:Int} {k:Int} {A:(List Beat)} {r:(List Placed)×(List Int)} (g:mh j m k A=some r) :
  FnM Tryz.prog 31 [(vL Log_.enc j),(vI m),(vI k),(vL Beat.enc A)] [] (.tup [(vL Placed.enc r.1),(vL eI r.2)]) []:=by
 refine FnM.of_wH ⟨Tryz.prog,68,[],[]⟩ rfl Tryz.func31 rfl rfl (lb_ rfl) (by kernel_rfl) ?_
 unfold mh at g
 refine ai (aa .nil (aa .nil (af (ai (aa (vL Beat.enc A) (aa (vL Log_.enc j) (aa (vI m) ?_)))))))
 obtain ⟨l,Y,g⟩:=bind_some g
 refine dI Au rfl rfl Y rfl wz (lQ ut rfl [.str l.Player,.str l.Item,.int .i64 l.No,.int .i64 l.Clock,.int .i64 l.Long,.str l.Sum] rfl rfl wz (bH sz9 ag9 rfl (vS l.Player) rfl wz ?_))
 obtain ⟨x,U,g⟩:=bind_some g
 refine aG (uJ U) rfl hb57 rfl rfl rfl rfl wz (aa (vL Beat_.enc x) (af (ai (aa .nil (af (ai (aa .nil (af (ak (ai (aa (vI m) (aa (vI m) (af (jJ (λÂ=>jJ (λÃ => ?_))))))))))))))))
 obtain ⟨Å,F,g⟩:=bind_some g
 obtain ⟨Ä,F⟩:=bW F
 refine xn (σ:=(List Placed)×(List Int)×Int) (N:=Nm×Nm) (λp=>(λ(a:(List Placed)×(List Int)×Int) (c:Nm) (e:Nm)=>([(11,(gV c 2 a.1)),(12,(gV e 1 a.2.1))]:SL_)) p.1 p.2.1 p.2.2) (λp=>(λ(a:(List Placed)×(List Int)×Int) (c:Nm) (e:Nm)=>([(c,gB 2 Placed.enc a.1),(e,gB 1 eI a.2.1)]:Hp)) p.1 p.2.1 p.2.2) (λ(y:Nat)=>(λp=>(λ(a:(List Placed)×(List Int)×Int) (c:Nm) (e:Nm)=>([(0,(vL Log_.enc j)),(2,(vI k)),(10,(vL Beat_.enc x)),(11,(gV c 2 a.1)),(12,(gV e 1 a.2.1)),(13,(vI a.2.2))]:SL_)) p.1 p.2.1 p.2.2)) (λs=>fH k j x s) Å Ä ((([]:List Placed),([]:List Int),m),Â,Ã) F rfl (aK rfl) ?_ ?_
 ·rintro ⟨y,a,c,e⟩ n
  dsimp only at n
  cases y with
  | zero=>cases n
  | succ y =>
   obtain ⟨Ç,h,n⟩:=bind_some n
   unfold fH at h
   refine ak (ai (aa (vI a.2.2) (aa (vI k) (aa (vB (decide (a.2.2<k))) (af ?_)))))
   rcases aj h with⟨B,h⟩|⟨B,h⟩
   ·refine aA rfl B (ax (ak (aQ (ai (aa (vL Beat_.enc x) (aa (vL Log_.enc j) (aa (vI a.2.2) ?_)))))))
    obtain ⟨z,W,h⟩:=bind_some h
    refine dI Au rfl rfl W rfl wz (lQ IY rfl [.int .i64 z.Clock,.int .i64 z.Long,.str z.Sum] rfl rfl wz (bH sz3 ag3 rfl (vI z.Clock) rfl wz ?_))
    obtain ⟨f,R,h⟩:=bind_some h
    refine aG (wF R) rfl hb58 rfl rfl rfl rfl wz (aa (.tup [(vI f.1),(vI f.2)]) (aa (vI f.1) (aa (vI f.2) (aa (vI f.1) (aa (vI f.2) (af (ai (aa (vI f.2) (af (aQ (ai (aa (vB (f.2==0)) (aa (vB (f.2==0)) (af ?_))))))))))))))
    obtain ⟨q,b,h⟩:=bind_some h
    refine kr (β:=Nm×Nm) (λp=>(λ(v:Nm) (w:Nm)=>([(0,(vL Log_.enc j)),(2,(vI k)),(10,(vL Beat_.enc x)),(11,(gV v 2 q.1)),(12,(gV w 1 q.2)),(13,(vI a.2.2))]:SL_)) p.1 p.2) (λp=>(λ(v:Nm) (w:Nm)=>([(v,gB 2 Placed.enc q.1),(w,gB 1 eI q.2)]:Hp)) p.1 p.2) (λ_=>True) ?_ ?_
    ·rcases aj b with⟨C,b⟩|⟨C,b⟩
     ·refine aA rfl C (au (aa (gV c 2 a.1) (aa (vI a.2.2) (aa (vI f.1) (aL (.d (.agg (Placed.enc (⟨a.2.2,f.1⟩:Placed)))) wz (by kernel_rfl) (gL (([(⟨a.2.2,f.1⟩:Placed)]:List Placed).map Placed.enc) IQ ez94 rfl rfl rfl rfl rfl wz ?_))))))
      obtain ⟨M,Z,b⟩:=bind_some b
      refine jr 0 il ft (i:=0) el94 el94 F7 z98 rfl (by decide) by98 (by decide) (λ_=>rfl) rfl rfl rfl Z wz (λI=>aa (gV I 2 M) (af ?_))
      obtain rfl:=ae b
      exact aW (I,e) trivial rfl (aK rfl)
     ·refine ay rfl C (ai (aa (vB (f.2==8)) (aa (vB (f.2==8)) (af ?_))))
      rcases aj b with⟨E,b⟩|⟨E,b⟩
      ·refine aA rfl E (au (aa (gV c 2 a.1) (aa (vI a.2.2) (aa (vL Log_.enc j) (aa (vI a.2.2) ?_)))))
       obtain ⟨t,X,b⟩:=bind_some b
       refine dI Au rfl rfl X rfl wz (lQ IY rfl [.int .i64 t.Clock,.int .i64 t.Long,.str t.Sum] rfl rfl wz (bH sz3 ag3 rfl (vI t.Clock) rfl wz (aL (.d (.agg (Placed.enc (⟨a.2.2,t.Clock⟩:Placed)))) wz (by kernel_rfl) (gL (([(⟨a.2.2,t.Clock⟩:Placed)]:List Placed).map Placed.enc) IQ ez94 rfl rfl rfl rfl rfl wz ?_))))
       obtain ⟨O,À,b⟩:=bind_some b
       refine jr 0 il ft (i:=0) el94 el94 F7 z98 rfl (by decide) by98 (by decide) (λ_=>rfl) rfl rfl rfl À wz (λJ=>aa (gV J 2 O) (af ?_))
       obtain rfl:=ae b
       exact aW (J,e) trivial rfl (aK rfl)
      ·refine ay rfl E (au (aa (gV e 1 a.2.1) (aa (vI a.2.2) (gL (([a.2.2]:List Int).map eI) ic AV rfl rfl rfl rfl rfl wz ?_))))
       obtain ⟨P,Á,b⟩:=bind_some b
       refine jr 0 il ft (i:=1) Bh Bh sz3 z3 rfl (by decide) by3 (by decide) (λ_=>rfl) rfl rfl rfl Á wz (λK=>aa (gV K 1 P) (af ?_))
       obtain rfl:=ae b
       exact aW (c,K) trivial rfl (aK rfl)
    ·rintro ⟨v,w⟩ _ Æ L G H
     refine aR _ G H (au (aa (vI a.2.2) (aa (vI (w64 (a.2.2+1))) (aa (vI (w64 (a.2.2+1))) (af ?_)))))
     obtain rfl:=ae h
     exact aZ (y,(q.1,q.2,(w64 (a.2.2+1))),v,w) n (ls_ _) rfl (aK rfl)
   ·refine ay rfl B (aY ?_)
    obtain rfl:=ae h
    obtain rfl:=ae n
    exact aW ((a.1,a.2.1,a.2.2),c,e) rfl rfl (aK rfl)
 ·rintro ⟨a,c,e⟩ Q Æ L G H
  subst Q
  refine aR _ G H (ai (aa (gV c 2 a.1) ?_))
  obtain ⟨o,T,g⟩:=bind_some g
  obtain ⟨_,u,g⟩:=bind_some g
  replace u:=lH u
  refine qb 0 [] 0 0 il ft (ja T) rfl hb59 rfl rfl rfl (by kernel_rfl) rfl (.inl rfl) rfl (by kernel_rfl) (by kernel_rfl) (by kernel_rfl) (by kernel_rfl) rfl (by decide) (by kernel_rfl) q8 (A9 u) wz ([(c,gB 2 Placed.enc o),(e,gB 1 eI a.2.1)]:Hp) (by kernel_rfl) (fK (v':=(gV c 2 o)) 11 rfl (kW u.symm) (fK (v':=(gV c 2 o)) 64 rfl (kW u.symm) (af (ai (aa (gV c 2 o) (aa (gV e 1 a.2.1) (aa (gV c 2 o) (aa (gV e 1 a.2.1) (af (fQ 0 rfl (dx 8 0 rfl rfl (dx 11 0 rfl rfl (dx 64 0 rfl rfl (dx 66 0 rfl rfl (fQ 1 rfl (dx 9 1 rfl rfl (dx 12 1 rfl rfl (dx 67 1 rfl rfl ?_))))))))))))))))))
  obtain rfl:=ae g
  exact aC (aO [(vL Placed.enc o),(vL eI a.2.1)] ⟨rfl,⟨rfl,trivial⟩⟩)
end Go.Proofs.YtkjlhdminmpmkaaGreatDoor.Law

