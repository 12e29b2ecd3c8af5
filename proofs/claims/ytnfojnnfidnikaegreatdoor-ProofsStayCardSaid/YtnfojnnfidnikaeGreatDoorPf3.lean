/-
 The machine computes these plain functions (written by a program of ours).
-/
import Derived.Test.YtnfojnnfidnikaeGreatDoorFacts
import Derived.Test.YtnfojnnfidnikaeGreatDoorDefs
import Derived.Test.YtnfojnnfidnikaeGreatDoorPf2
import Derived.Test.YtnfojnnfidnikaeGreatDoorShelf
open Go Go.Eng Go.Proofs
namespace Go.Proofs.YtnfojnnfidnikaeGreatDoor.Law
set_option maxRecDepth 100000
set_option linter.unusedVariables false
set_option maxHeartbeats 1000000
theorem oo {i:(List Placed)} {c:Int} {r:(List Placed)} (e:dU i c=some r) :
  FnM Tryz.prog 100 [(dV (aA 0) 2 i),(vI c),(.fn 71 [])] (([]:List Box)++gI 2 Placed.enc i) (.tup []) (([]:List Box).map some++gT i (gB 2 Placed.enc r)):=by
 refine FnM.of_wHv ⟨Tryz.prog,63,[],[]⟩ rfl Tryz.func100 rfl rfl (lb_ rfl) (by kernel_rfl) ?_
 unfold dU at e
 refine ai (aa (vI 20) (af (ai (aa (vI 20) (aa (vI 0) (aa (vI 20) (af (ak ?_))))))))
 obtain ⟨Q,F,e⟩:=bind_some e
 obtain ⟨P,F⟩:=bv F
 refine cB (λ(b:(List Placed)×Int×Int)=>[(0,(dV (aA 0) 2 b.1)),(1,(vI c)),(2,(.fn 71 [])),(6,(vI 20)),(7,(vI b.2.1))]) (λ(b:(List Placed)×Int×Int)=>[((aA 0),gB 2 Placed.enc b.1)]) (λ(w:Nat)=>(λ(b:(List Placed)×Int×Int)=>[(0,(dV (aA 0) 2 b.1)),(1,(vI c)),(2,(.fn 71 [])),(6,(vI 20)),(7,(vI b.2.1)),(8,(vI b.2.2))])) (λs=>fH c s) Q P (i,0,20) F rfl (aG rfl) ?_ ?_
 ·rintro ⟨w,b⟩ j
  dsimp only at j
  cases w with
  | zero=>cases j
  | succ w =>
   obtain ⟨K,f,j⟩:=bind_some j
   unfold fH at f
   refine ak (ai (aa (vI b.2.2) (aa (vI c) (aa (vB (decide (b.2.2<=c))) (af ?_)))))
   rcases aj f with⟨A,f⟩|⟨A,f⟩
   ·refine ay rfl A (av (aM (ai (aa (dV (aA 0) 2 b.1) (aa (vI b.2.1) (aa (vI b.2.2) (aa (.fn 71 []) ?_)))))))
    obtain ⟨x,L,f⟩:=bind_some f
    obtain ⟨_,t,f⟩:=bind_some f
    replace t:=iY t
    refine jN 0 [] 0 0 il ft (iC L) rfl hb154 rfl rfl rfl (by kernel_rfl) rfl (.inr (.inl rfl)) rfl (by kernel_rfl) (by kernel_rfl) (by kernel_rfl) (by kernel_rfl) rfl (by decide) (by kernel_rfl) jm (qY t) wz ([((aA 0),gB 2 Placed.enc x)]:Hp) (by kernel_rfl) (bT (v':=(dV (aA 0) 2 x)) 0 rfl (bC t.symm) (bT (v':=(dV (aA 0) 2 x)) 14 rfl (bC t.symm) (af (ai (aa (vI b.2.2) (aa (vI b.2.2) (af (au (aa (vI b.2.2) (aa (vI 20) (aa (vI (w64 (b.2.2+20))) (aa (vI (w64 (b.2.2+20))) (af ?_)))))))))))))
    obtain rfl:=ae f
    exact aV (w,(x,b.2.2,(w64 (b.2.2+20)))) j (ls_ _) rfl (aG rfl)
   ·refine ax rfl A (aU ?_)
    obtain rfl:=ae f
    obtain rfl:=ae j
    exact aW ((b.1,b.2.1,b.2.2)) rfl rfl (aG rfl)
 ·rintro b q J z m h
  subst q
  refine aO _ m h (ai (aa (dV (aA 0) 2 b.1) (aa (vI b.2.1) (aa (vI c) (aa (.fn 71 []) ?_)))))
  obtain ⟨d,M,e⟩:=bind_some e
  obtain ⟨_,u,e⟩:=bind_some e
  replace u:=iY u
  refine jN 0 [] 0 0 il ft (iC M) rfl hb154 rfl rfl rfl (by kernel_rfl) rfl (.inr (.inl rfl)) rfl (by kernel_rfl) (by kernel_rfl) (by kernel_rfl) (by kernel_rfl) rfl (by decide) (by kernel_rfl) jm (qY u) wz ([((aA 0),gB 2 Placed.enc d)]:Hp) (by kernel_rfl) (bT (v':=(dV (aA 0) 2 d)) 0 rfl (bC u.symm) (bT (v':=(dV (aA 0) 2 d)) 23 rfl (bC u.symm) (af ?_)))
  obtain ⟨R,G,e⟩:=bind_some e
  obtain ⟨O,G⟩:=bv G
  refine cB (λ(a:Int)=>[]) (λ(a:Int)=>[((aA 0),gB 2 Placed.enc d)]) (λ(v:Nat)=>(λ(a:Int)=>[(0,(dV (aA 0) 2 d)),(1,(vI c)),(2,(.fn 71 [])),(6,(vI a))])) (λs=>fK c s) R O 20 G rfl (aG rfl) ?_ ?_
  ·rintro ⟨v,a⟩ k
   dsimp only at k
   cases v with
   | zero=>cases k
   | succ v =>
    obtain ⟨K,g,k⟩:=bind_some k
    unfold fK at g
    refine ak (ai (aa (vI a) (aa (vI c) (aa (vB (decide (a<c))) (af ?_)))))
    rcases aj g with⟨B,g⟩|⟨B,g⟩
    ·refine ay rfl B (av (aM (ai (aa (vI a) (aa (vI (w64 (2*a))) (aa (vI 0) (aa (vI (w64 (2*a))) (af (ak ?_)))))))))
     obtain ⟨T,H,g⟩:=bind_some g
     obtain ⟨N,H⟩:=bv H
     refine cB (λ(y:Unit)=>[(0,(dV (aA 0) 2 d)),(1,(vI c)),(2,(.fn 71 [])),(6,(vI a)),(7,(vI 0))]) (λ(y:Unit)=>[((aA 0),gB 2 Placed.enc d)]) (λ(I:Nat)=>(λ(y:Unit)=>[(0,(dV (aA 0) 2 d)),(1,(vI c)),(2,(.fn 71 [])),(6,(vI a)),(7,(vI 0)),(8,(vI (w64 (2*a))))])) (λs=>fJ a c s) T N () H rfl (aG rfl) ?_ ?_
     ·rintro ⟨I,y⟩ n
      dsimp only at n
      cases I with
      | zero=>cases n
      | succ I =>
       obtain ⟨K,l,n⟩:=bind_some n
       unfold fJ at l
       refine ak (ai (aa (vI (w64 (2*a))) (aa (vI c) (aa (vB (decide ((w64 (2*a))<=c))) (af ?_)))))
       rcases aj l with⟨C,l⟩|⟨C,l⟩
       ·refine ay rfl C (av (aM (ai (aa (dV (aA 0) 2 d) (aa (vI 0) (aa (vI 0) (aa (vI a) (aa (vI (w64 (0+a))) (aa (vI (w64 (2*a))) (aa (.fn 71 []) ?_))))))))))
        cases l
       ·refine ax rfl C (aU ?_)
        obtain rfl:=ae l
        obtain rfl:=ae n
        exact aW (()) rfl rfl (aG rfl)
     ·rintro y q J z m h
      subst q
      refine aO _ m h (ak (ai (aa (vI 0) (aa (vI a) (aa (vI (w64 (0+a))) (aa (vI (w64 (0+a))) (af (ai (aa (vI (w64 (0+a))) (aa (vI c) (aa (vB (decide ((w64 (0+a))<c))) (af ?_))))))))))))
      obtain ⟨U,p,g⟩:=bind_some g
      refine aR [(0,(dV (aA 0) 2 d)),(1,(vI c)),(2,(.fn 71 [])),(6,(vI a))] [((aA 0),gB 2 Placed.enc d)] ?_ ?_
      ·rcases aj p with⟨E,p⟩|⟨E,p⟩
       ·refine ay rfl E (au (aa (dV (aA 0) 2 d) (aa (vI 0) (aa (vI (w64 (0+a))) (aa (vI c) (aa (.fn 71 []) ?_))))))
        cases p
       ·refine ax rfl E (av ?_)
        obtain rfl:=ae p
        exact cu
      ·rintro ⟨⟩ _ J z m h
       refine aO _ m h (au (aa (vI a) (aa (vI (w64 (a*2))) (aa (vI (w64 (a*2))) (af ?_)))))
       obtain rfl:=ae g
       exact aV (v,(w64 (a*2))) k (ls_ _) rfl (aG rfl)
    ·refine ax rfl B (aU ?_)
     obtain rfl:=ae g
     obtain rfl:=ae k
     exact aW (a) rfl rfl (aG rfl)
  ·rintro a q J z m h
   subst q
   show qI _ _ _ _ _ _ _ _
   obtain rfl:=ae e
   exact qz (H0:=([((aA 0),gB 2 Placed.enc d)]:Hp)) (sl':=envS []) h (oq (bs:=([]:List Box)) (os:=([]:List Box)) (xs:=i) (o:=gB 2 Placed.enc d) (.inl rfl) [] trivial rfl rfl rfl rfl rfl (by kernel_rfl) jm rfl)
theorem kz {a:(List Placed)} {r:(List Placed)} (b:bD a=some r) :
  FnM Tryz.prog 70 [(dV (aA 0) 2 a),(.fn 71 [])] (([]:List Box)++gI 2 Placed.enc a) (.tup []) (([]:List Box).map some++gT a (gB 2 Placed.enc r)):=by
 refine FnM.of_wHv ⟨Tryz.prog,9,[],[]⟩ rfl Tryz.func70 rfl rfl (lb_ rfl) (by kernel_rfl) ?_
 unfold bD at b
 refine au (aa (dV (aA 0) 2 a) (aa (dV (aA 0) 2 a) (xR un83 rfl wz (aa (.fn 71 []) ?_))))
 obtain ⟨d,e,b⟩:=bind_some b
 obtain ⟨_,c,b⟩:=bind_some b
 replace c:=iY c
 refine jN 0 [] 0 0 il ft (oo e) rfl hb100 rfl rfl rfl (by kernel_rfl) rfl (.inr (.inl rfl)) rfl (by kernel_rfl) (by kernel_rfl) (by kernel_rfl) (by kernel_rfl) rfl (by decide) (by kernel_rfl) jm (qY c) wz ([((aA 0),gB 2 Placed.enc d)]:Hp) (by kernel_rfl) (bT (v':=(dV (aA 0) 2 d)) 0 rfl (bC c.symm) (bT (v':=(dV (aA 0) 2 d)) 4 rfl (bC c.symm) (bT (v':=(dV (aA 0) 2 d)) 5 rfl (bC c.symm) (af ?_))))
 show qI _ _ _ _ _ _ _ _
 obtain rfl:=ae b
 exact oq (bs:=([]:List Box)) (os:=([]:List Box)) (xs:=a) (o:=gB 2 Placed.enc d) (.inl rfl) [] trivial rfl rfl rfl rfl rfl (by kernel_rfl) jm rfl
theorem DC {j:(List Log_)} {m:Int} {k:Int} {A:(List Beat)} {r:(List Placed)×(List Int)} (g:o5 j m k A=some r) :
  FnM Tryz.prog 35 [(vL Log_.enc j),(vI m),(vI k),(vL Beat.enc A)] [] (.tup [(vL Placed.enc r.1),(vL eI r.2)]) []:=by
 refine FnM.of_wH ⟨Tryz.prog,68,[],[]⟩ rfl Tryz.func35 rfl rfl (lb_ rfl) (by kernel_rfl) ?_
 unfold o5 at g
 refine ai (aa .nil (aa .nil (af (ai (aa (vL Beat.enc A) (aa (vL Log_.enc j) (aa (vI m) ?_)))))))
 obtain ⟨l,Y,g⟩:=bind_some g
 refine dC sG rfl rfl Y rfl wz (qh ze rfl [.str l.Player,.str l.Item,.int .i64 l.No,.int .i64 l.Clock,.int .i64 l.Long,.str l.Sum] rfl rfl wz (bE sz9 ag9 rfl (vS l.Player) rfl wz ?_))
 obtain ⟨x,U,g⟩:=bind_some g
 refine aB (yI U) rfl hb68 rfl rfl rfl rfl wz (aa (vL Beat_.enc x) (af (ai (aa .nil (af (ai (aa .nil (af (ak (ai (aa (vI m) (aa (vI m) (af (iM (λÂ=>iM (λÃ => ?_))))))))))))))))
 obtain ⟨Å,F,g⟩:=bind_some g
 obtain ⟨Ä,F⟩:=bv F
 refine yG (σ:=(List Placed)×(List Int)×Int) (N:=Nm×Nm) (λp=>(λ(a:(List Placed)×(List Int)×Int) (c:Nm) (e:Nm)=>([(11,(gV c 2 a.1)),(12,(gV e 1 a.2.1))]:SL_)) p.1 p.2.1 p.2.2) (λp=>(λ(a:(List Placed)×(List Int)×Int) (c:Nm) (e:Nm)=>([(c,gB 2 Placed.enc a.1),(e,gB 1 eI a.2.1)]:Hp)) p.1 p.2.1 p.2.2) (λ(y:Nat)=>(λp=>(λ(a:(List Placed)×(List Int)×Int) (c:Nm) (e:Nm)=>([(0,(vL Log_.enc j)),(2,(vI k)),(10,(vL Beat_.enc x)),(11,(gV c 2 a.1)),(12,(gV e 1 a.2.1)),(13,(vI a.2.2))]:SL_)) p.1 p.2.1 p.2.2)) (λs=>gY k j x s) Å Ä ((([]:List Placed),([]:List Int),m),Â,Ã) F rfl (aG rfl) ?_ ?_
 ·rintro ⟨y,a,c,e⟩ n
  dsimp only at n
  cases y with
  | zero=>cases n
  | succ y =>
   obtain ⟨Ç,h,n⟩:=bind_some n
   unfold gY at h
   refine ak (ai (aa (vI a.2.2) (aa (vI k) (aa (vB (decide (a.2.2<k))) (af ?_)))))
   rcases aj h with⟨B,h⟩|⟨B,h⟩
   ·refine ay rfl B (av (ak (aM (ai (aa (vL Beat_.enc x) (aa (vL Log_.enc j) (aa (vI a.2.2) ?_)))))))
    obtain ⟨z,W,h⟩:=bind_some h
    refine dC sG rfl rfl W rfl wz (qh GQ rfl [.int .i64 z.Clock,.int .i64 z.Long,.str z.Sum] rfl rfl wz (bE sz3 ag3 rfl (vI z.Clock) rfl wz ?_))
    obtain ⟨f,R,h⟩:=bind_some h
    refine aB (zM R) rfl hb69 rfl rfl rfl rfl wz (aa (.tup [(vI f.1),(vI f.2)]) (aa (vI f.1) (aa (vI f.2) (aa (vI f.1) (aa (vI f.2) (af (ai (aa (vI f.2) (af (aM (ai (aa (vB (f.2==0)) (aa (vB (f.2==0)) (af ?_))))))))))))))
    obtain ⟨q,b,h⟩:=bind_some h
    refine lu (β:=Nm×Nm) (λp=>(λ(v:Nm) (w:Nm)=>([(0,(vL Log_.enc j)),(2,(vI k)),(10,(vL Beat_.enc x)),(11,(gV v 2 q.1)),(12,(gV w 1 q.2)),(13,(vI a.2.2))]:SL_)) p.1 p.2) (λp=>(λ(v:Nm) (w:Nm)=>([(v,gB 2 Placed.enc q.1),(w,gB 1 eI q.2)]:Hp)) p.1 p.2) (λ_=>True) ?_ ?_
    ·rcases aj b with⟨C,b⟩|⟨C,b⟩
     ·refine ay rfl C (au (aa (gV c 2 a.1) (aa (vI a.2.2) (aa (vI f.1) (aL (.d (.agg (Placed.enc (⟨a.2.2,f.1⟩:Placed)))) wz (by kernel_rfl) (eu (([(⟨a.2.2,f.1⟩:Placed)]:List Placed).map Placed.enc) KZ ez83 rfl rfl rfl rfl rfl wz ?_))))))
      obtain ⟨M,Z,b⟩:=bind_some b
      refine jF 0 il ft (i:=0) el83 el83 Jq z87 rfl (by decide) by87 (by decide) (λ_=>rfl) rfl rfl rfl Z wz (λI=>aa (gV I 2 M) (af ?_))
      obtain rfl:=ae b
      exact aW (I,e) trivial rfl (aG rfl)
     ·refine ax rfl C (ai (aa (vB (f.2==8)) (aa (vB (f.2==8)) (af ?_))))
      rcases aj b with⟨E,b⟩|⟨E,b⟩
      ·refine ay rfl E (au (aa (gV c 2 a.1) (aa (vI a.2.2) (aa (vL Log_.enc j) (aa (vI a.2.2) ?_)))))
       obtain ⟨t,X,b⟩:=bind_some b
       refine dC sG rfl rfl X rfl wz (qh GQ rfl [.int .i64 t.Clock,.int .i64 t.Long,.str t.Sum] rfl rfl wz (bE sz3 ag3 rfl (vI t.Clock) rfl wz (aL (.d (.agg (Placed.enc (⟨a.2.2,t.Clock⟩:Placed)))) wz (by kernel_rfl) (eu (([(⟨a.2.2,t.Clock⟩:Placed)]:List Placed).map Placed.enc) KZ ez83 rfl rfl rfl rfl rfl wz ?_))))
       obtain ⟨O,À,b⟩:=bind_some b
       refine jF 0 il ft (i:=0) el83 el83 Jq z87 rfl (by decide) by87 (by decide) (λ_=>rfl) rfl rfl rfl À wz (λJ=>aa (gV J 2 O) (af ?_))
       obtain rfl:=ae b
       exact aW (J,e) trivial rfl (aG rfl)
      ·refine ax rfl E (au (aa (gV e 1 a.2.1) (aa (vI a.2.2) (eu (([a.2.2]:List Int).map eI) pQ zP rfl rfl rfl rfl rfl wz ?_))))
       obtain ⟨P,Á,b⟩:=bind_some b
       refine jF 0 il ft (i:=1) Hy Hy sz3 z3 rfl (by decide) by3 (by decide) (λ_=>rfl) rfl rfl rfl Á wz (λK=>aa (gV K 1 P) (af ?_))
       obtain rfl:=ae b
       exact aW (c,K) trivial rfl (aG rfl)
    ·rintro ⟨v,w⟩ _ Æ L G H
     refine aO _ G H (au (aa (vI a.2.2) (aa (vI (w64 (a.2.2+1))) (aa (vI (w64 (a.2.2+1))) (af ?_)))))
     obtain rfl:=ae h
     exact aV (y,(q.1,q.2,(w64 (a.2.2+1))),v,w) n (ls_ _) rfl (aG rfl)
   ·refine ax rfl B (aU ?_)
    obtain rfl:=ae h
    obtain rfl:=ae n
    exact aW ((a.1,a.2.1,a.2.2),c,e) rfl rfl (aG rfl)
 ·rintro ⟨a,c,e⟩ Q Æ L G H
  subst Q
  refine aO _ G H (ai (aa (gV c 2 a.1) ?_))
  obtain ⟨o,T,g⟩:=bind_some g
  obtain ⟨_,u,g⟩:=bind_some g
  replace u:=iY u
  refine jN 0 [] 0 0 il ft (kz T) rfl hb70 rfl rfl rfl (by kernel_rfl) rfl (.inl rfl) rfl (by kernel_rfl) (by kernel_rfl) (by kernel_rfl) (by kernel_rfl) rfl (by decide) (by kernel_rfl) jm (qY u) wz ([(c,gB 2 Placed.enc o),(e,gB 1 eI a.2.1)]:Hp) (by kernel_rfl) (bT (v':=(gV c 2 o)) 11 rfl (jg u.symm) (bT (v':=(gV c 2 o)) 64 rfl (jg u.symm) (af (ai (aa (gV c 2 o) (aa (gV e 1 a.2.1) (aa (gV c 2 o) (aa (gV e 1 a.2.1) (af (iq 0 rfl (cO 8 0 rfl rfl (cO 11 0 rfl rfl (cO 64 0 rfl rfl (cO 66 0 rfl rfl (iq 1 rfl (cO 9 1 rfl rfl (cO 12 1 rfl rfl (cO 67 1 rfl rfl ?_))))))))))))))))))
  obtain rfl:=ae g
  exact aC (aN [(vL Placed.enc o),(vL eI a.2.1)] ⟨rfl,⟨rfl,trivial⟩⟩)
theorem pW {x r:(List Int)} (a:dw x=some r) :
  FnM Tryz.prog 37 [(dV (aA 0) 1 x)] (([]:List Box)++gI 1 eI x) (.tup []) (([]:List Box).map some++gT x (gB 1 eI r)) :=
 Ub Tryz.slices_Sort_int Tryz.slices_Sort_int_none a
theorem xk {c:(List Play)} {r:(List Play)} (h:ji c=some r) :
  FnM Tryz.prog 10 [(dV (aA 0) 4 c)] (([]:List Box)++gI 4 Play.enc c) (.tup []) (([]:List Box).map some++gT c (gB 4 Play.enc r)):=by
 refine FnM.of_wHv ⟨Tryz.prog,14,[],[]⟩ rfl Tryz.func10 rfl rfl (lb_ rfl) (by kernel_rfl) ?_
 unfold ji at h
 refine ai (dA 0 (.inl rfl) z42 rfl wz (λl=>af (ai (aa (dV (aA 0) 4 c) (xR Je rfl wz (aa (vI 0) (af ?_)))))))
 obtain ⟨u,i,h⟩:=bind_some h
 obtain ⟨n,i⟩:=aY i
 refine bN (λ(a:List Play)=>[]) (λ(a:List Play)=>[((aA 0),gB 4 Play.enc a),(l,some (.cells 4 [(vS (⟨#[]⟩:ByteArray)),(vS (⟨#[]⟩:ByteArray)),(vI 0),(vI 0)]))]) (λ(b:Nat)=>(λ(a:List Play)=>[(0,(dV (aA 0) 4 a)),(2,(.ref l 0 0)),(5,(vI (c.length:Int))),(6,(vI (b:Int)))])) (λk x s=>jA k x s) u (List.range ((c.length:Int)).toNat) c i rfl (aG rfl) ?_ ?_
 ·rintro ⟨b,j,a⟩ ⟨g,f⟩
  dsimp only at g f
  cases j with
  | nil =>
   obtain rfl:=ae g
   refine ai (aa (vB (decide ((b:Int)<(c.length:Int)))) (af ?_))
   refine ak (ax rfl (lH f) (aU ?_))
   exact aW (a) rfl rfl (aG rfl)
  | cons B j =>
   obtain ⟨w,e,g⟩:=bind_some g
   refine ai (aa (vB (decide ((b:Int)<(c.length:Int)))) (af ?_))
   refine ak (ay rfl (jZ f) (av ?_))
   unfold jA at e
   refine ak (aM (ai (aa (vI (b:Int)) (aa (vI (b:Int)) (af (au (aa (dV (aA 0) 4 a) (aa (vI (b:Int)) (aI 0 1 il ft zV Jk rfl rfl (.d (.agg (Play.enc (⟨(⟨#[]⟩:ByteArray),(⟨#[]⟩:ByteArray),0,0⟩:Play)))) rfl wz ?_)))))))))
   obtain ⟨_,m,e⟩:=bind_some e
   refine je IM rfl rfl (ik m) (dN m) wz ?_
   obtain ⟨y,t,e⟩:=bind_some e
   refine sw 0 il ft 0 zV rfl rfl t (⟨(⟨#[]⟩:ByteArray),(⟨#[]⟩:ByteArray),0,0⟩:Play) rfl wz (bT (v':=(dV (aA 0) 4 (a.set (0+((b:Int)).toNat) (⟨(⟨#[]⟩:ByteArray),(⟨#[]⟩:ByteArray),0,0⟩:Play)))) 0 rfl (bC (by simp)) (bT (v':=(dV (aA 0) 4 (a.set (0+((b:Int)).toNat) (⟨(⟨#[]⟩:ByteArray),(⟨#[]⟩:ByteArray),0,0⟩:Play)))) 9 rfl (bC (by simp)) (af (au (dH (lF f n) wz rfl (aa (vI ((b+1:Nat):Int)) (af ?_)))))))
   obtain rfl:=ae e
   exact aV (b+1,j,(a.set (0+((b:Int)).toNat) (⟨(⟨#[]⟩:ByteArray),(⟨#[]⟩:ByteArray),0,0⟩:Play))) ⟨g,aX f⟩ (ls_ _) rfl (aG rfl)
 ·rintro a p A v z q
  subst p
  show qI _ _ _ _ _ _ _ _
  obtain rfl:=ae h
  exact qz (H0:=([((aA 0),gB 4 Play.enc a),(l,some (.cells 4 [(vS (⟨#[]⟩:ByteArray)),(vS (⟨#[]⟩:ByteArray)),(vI 0),(vI 0)]))]:Hp)) (sl':=envS []) q (oq (bs:=([]:List Box)) (os:=([]:List Box)) (xs:=c) (o:=gB 4 Play.enc a) (.inl rfl) [] trivial rfl rfl rfl rfl rfl (by kernel_rfl) jm rfl)
theorem FU {g:(List Log_)} {u:(List Beat)} {r:(List Play)×(List Int)×Int} (h:tZ g u=some r) :
  FnM Tryz.prog 9 [(vL Log_.enc g),(vL Beat.enc u)] [] (nN [dl eI r.2.1,.int .i64 r.2.2] (gV (aA 0) 4 r.1)) (([]:List Box).map some++gO 4 Play.enc r.1):=by
 refine FnM.of_wH ⟨Tryz.prog,118,[],[]⟩ rfl Tryz.func9 rfl rfl (lb_ rfl) (by kernel_rfl) ?_
 unfold tZ at h
 refine ai (aa .nil (aa .nil (aa (vI 0) (af (ak (ai (aa (vL Log_.enc g) ?_)))))))
 obtain ⟨K,Ò,h⟩:=bind_some h
 refine aB (nC Ò) rfl hb29 rfl rfl rfl rfl wz (aa (vI K) (af (ai (aa (vI K) (aa (vB (K != 0)) (af ?_))))))
 rcases aj h with⟨À,h⟩|⟨À,h⟩
 ·refine ay rfl À (ai (aa (vI K) (aa .nil (aa .nil (aa (vI K) (af (iM (λè=>Bu eI 5 rfl ?_))))))))
  obtain rfl:=ae h
  exact aC (yD (outs:=([]:List Box)) [dl eI ([]:List Int),.int .i64 K] (.inr rfl) 0 rfl ⟨rfl,⟨rfl,trivial⟩⟩ rfl rfl (by kernel_rfl) (by kernel_rfl))
 ·refine ax rfl À (av (ak (ai (aa (vL Beat.enc u) ?_))))
  obtain ⟨L,Õ,h⟩:=bind_some h
  refine aB (vg Õ) rfl hb34 rfl rfl rfl rfl wz (aa (vI L) (af (ai (aa (vI L) (aa (vB (L != 0)) (af ?_))))))
  rcases aj h with⟨Ã,h⟩|⟨Ã,h⟩
  ·refine ay rfl Ã (ai (aa (vI L) (aa .nil (aa .nil (aa (vI L) (af (iM (λç=>Bu eI 5 rfl ?_))))))))
   obtain rfl:=ae h
   exact aC (yD (outs:=([]:List Box)) [dl eI ([]:List Int),.int .i64 L] (.inr rfl) 0 rfl ⟨rfl,⟨rfl,trivial⟩⟩ rfl rfl (by kernel_rfl) (by kernel_rfl))
  ·refine ax rfl Ã (av (ai (aa .nil (af (ai (aa .nil (af (ak (ai (aa (vI 0) (aa (vI 0) (af (iM (λÞ=>iM (λß => ?_)))))))))))))))
   obtain ⟨â,Ä,h⟩:=bind_some h
   obtain ⟨á,Ä⟩:=bv Ä
   refine yG (σ:=(List Play)×(List Int)×Int) (N:=Nm×Nm) (λp=>(λ(a:(List Play)×(List Int)×Int) (l:Nm) (j:Nm)=>([(9,(gV l 4 a.1)),(10,(gV j 1 a.2.1))]:SL_)) p.1 p.2.1 p.2.2) (λp=>(λ(a:(List Play)×(List Int)×Int) (l:Nm) (j:Nm)=>([(l,gB 4 Play.enc a.1),(j,gB 1 eI a.2.1)]:Hp)) p.1 p.2.1 p.2.2) (λ(R:Nat)=>(λp=>(λ(a:(List Play)×(List Int)×Int) (l:Nm) (j:Nm)=>([(0,(vL Log_.enc g)),(1,(vL Beat.enc u)),(9,(gV l 4 a.1)),(10,(gV j 1 a.2.1)),(11,(vI a.2.2))]:SL_)) p.1 p.2.1 p.2.2)) (λs=>jT g u s) â á ((([]:List Play),([]:List Int),0),Þ,ß) Ä rfl (aG rfl) ?_ ?_
   ·rintro ⟨R,a,l,j⟩ H
    dsimp only at H
    cases R with
    | zero=>cases H
    | succ R =>
     obtain ⟨Ê,n,H⟩:=bind_some H
     unfold jT at n
     refine ak (ai (aa (vI a.2.2) (aa (vL Log_.enc g) (bA uK rfl wz (aa (vB (decide (a.2.2<(g.length:Int)))) (af ?_))))))
     rcases aj n with⟨X,n⟩|⟨X,n⟩
     ·refine ay rfl X (av (ak (aM (ak (ai (aa (vI a.2.2) (aa (vI a.2.2) (af ?_))))))))
      obtain ⟨ã,Å,n⟩:=bind_some n
      obtain ⟨à,Å⟩:=bv Å
      refine cB (λ(e:Int)=>[(0,(vL Log_.enc g)),(1,(vL Beat.enc u)),(9,(gV l 4 a.1)),(10,(gV j 1 a.2.1)),(11,(vI a.2.2)),(12,(vI e))]) (λ(e:Int)=>[(l,gB 4 Play.enc a.1),(j,gB 1 eI a.2.1)]) (λ(T:Nat)=>(λ(e:Int)=>[(0,(vL Log_.enc g)),(1,(vL Beat.enc u)),(9,(gV l 4 a.1)),(10,(gV j 1 a.2.1)),(11,(vI a.2.2)),(12,(vI e))])) (λs=>jU g a s) ã à a.2.2 Å rfl (aG rfl) ?_ ?_
      ·rintro ⟨T,e⟩ I
       dsimp only at I
       cases T with
       | zero=>cases I
       | succ T =>
        obtain ⟨Ê,F,I⟩:=bind_some I
        unfold jU at F
        refine ak (ak ?_)
        obtain ⟨å,w,F⟩:=bind_some F
        refine aR [(0,(vL Log_.enc g)),(1,(vL Beat.enc u)),(9,(gV l 4 a.1)),(10,(gV j 1 a.2.1)),(11,(vI a.2.2)),(12,(vI e)),(53,(vB å))] [(l,gB 4 Play.enc a.1),(j,gB 1 eI a.2.1)] ?_ ?_
        ·refine bg (aa (vI e) (aa (vL Log_.enc g) (bA uK rfl wz (aa (vB (decide (e<(g.length:Int)))) ?_))))
         rcases aj w with⟨Y,w⟩|⟨Y,w⟩
         ·refine aH rfl Y wz (aL (vL Log_.enc g) wa rfl (aL (vI e) wa rfl ?_))
          obtain ⟨B,Ø,w⟩:=bind_some w
          refine dC sG rfl rfl Ø rfl wa (qh ze rfl [.str B.Player,.str B.Item,.int .i64 B.No,.int .i64 B.Clock,.int .i64 B.Long,.str B.Sum] rfl rfl wa (bE sz9 ag9 rfl (vS B.Player) rfl wa (aL (vL Log_.enc g) wa rfl (aL (vI a.2.2) wa rfl ?_))))
          obtain ⟨C,Ù,w⟩:=bind_some w
          refine dC sG rfl rfl Ù rfl wa (qh ze rfl [.str C.Player,.str C.Item,.int .i64 C.No,.int .i64 C.Clock,.int .i64 C.Long,.str C.Sum] rfl rfl wa (bE sz9 ag9 rfl (vS C.Player) rfl wa (aL (vB (sEq B.Player C.Player)) wa rfl (aa (vB (sEq B.Player C.Player)) (af ?_)))))
          obtain rfl:=ae w
          exact cu
         ·refine aH rfl Y wz (ah (ah (ah (ah (ah (ah (ah (ah (ah (ah (ah (aa (vB false) (af ?_)))))))))))))
          obtain rfl:=ae w
          exact cu
        ·rintro ⟨⟩ _ W Q y z
         refine aO _ y z ?_
         rcases aj F with⟨Z,F⟩|⟨Z,F⟩
         ·refine ay rfl Z (av (aM (au (aa (vI e) (aa (vI (w64 (e+1))) (aa (vI (w64 (e+1))) (af ?_)))))))
          obtain rfl:=ae F
          exact aV (T,(w64 (e+1))) I (ls_ _) rfl (aG rfl)
         ·refine ax rfl Z (aU ?_)
          obtain rfl:=ae F
          obtain rfl:=ae I
          exact aW (e) rfl rfl (aG rfl)
      ·rintro e O W Q y z
       subst O
       refine aO _ y z (ai (aa (vL Log_.enc g) (aa (vI a.2.2) (aa (vI e) (aa (vL Beat.enc u) ?_)))))
       obtain ⟨m,Ó,n⟩:=bind_some n
       refine aB (DC Ó) rfl hb35 rfl rfl rfl rfl wz (aa (.tup [(vL Placed.enc m.1),(vL eI m.2)]) (aa (vL Placed.enc m.1) (aa (vL eI m.2) (aa (vL Placed.enc m.1) (aa (vL eI m.2) (af (ai (aa (gV j 1 a.2.1) (aa (vL eI m.2) ?_)))))))))
       obtain ⟨Ç,Û,n⟩:=bind_some n
       refine jF 0 il ft (i:=1) Hy Hy sz3 z3 rfl (by decide) by3 (by decide) (λ_=>rfl) rfl rfl rfl Û wz (λÌ=>aa (gV Ì 1 Ç) (af (ai (aa (vI 0) (af (ai (aa (vL Placed.enc m.1) (bA un83 rfl wz (aa (vI 0) (af ?_))))))))))
       obtain ⟨ä,Æ,n⟩:=bind_some n
       obtain ⟨Ë,Æ⟩:=aY Æ
       refine iw (σ:=(List Play)×(List Int)×Int) (N:=Nm×Nm) (λp=>(λ(b:(List Play)×(List Int)×Int) (q:Nm) (t:Nm)=>([(0,(vL Log_.enc g)),(1,(vL Beat.enc u)),(9,(gV q 4 b.1)),(10,(gV t 1 b.2.1)),(12,(vI e))]:SL_)) p.1 p.2.1 p.2.2) (λp=>(λ(b:(List Play)×(List Int)×Int) (q:Nm) (t:Nm)=>([(q,gB 4 Play.enc b.1),(t,gB 1 eI b.2.1)]:Hp)) p.1 p.2.1 p.2.2) (λ(A:Nat)=>(λp=>(λ(b:(List Play)×(List Int)×Int) (q:Nm) (t:Nm)=>([(0,(vL Log_.enc g)),(1,(vL Beat.enc u)),(9,(gV q 4 b.1)),(10,(gV t 1 b.2.1)),(12,(vI e)),(15,(vI b.2.2)),(67,(vL Placed.enc m.1)),(68,(vI (m.1.length:Int))),(69,(vI (A:Int)))]:SL_)) p.1 p.2.1 p.2.2)) (λk x s=>mh g k x s) ä m.1 ((a.1,Ç,0),l,Ì) Æ rfl (aG rfl) ?_ ?_
       ·rintro ⟨A,U,b,q,t⟩ ⟨J,E⟩
        dsimp only at J E
        cases U with
        | nil =>
         obtain rfl:=ae J
         refine ai (aa (vB (decide ((A:Int)<(m.1.length:Int)))) (af ?_))
         refine ak (ax rfl (drop_nil E) (aU ?_))
         exact aW (b,q,t) rfl rfl (aG rfl)
        | cons c U =>
         obtain ⟨Ê,o,J⟩:=bind_some J
         refine ai (aa (vB (decide ((A:Int)<(m.1.length:Int)))) (af ?_))
         refine ak (ay rfl (bu E) (av ?_))
         unfold mh at o
         refine ak (aM (ai (dC KZ rfl rfl (bI E) rfl wz (bE Jq Ue rfl (.d (.agg (Placed.enc c))) rfl wz (dA 0 (.inl rfl) z87 rfl wz (λÍ=>jw 0 il ft 2 Jq rfl rfl [(vI c.f_i),(vI c.f_at)] rfl wz (af (ai (aa (vL Log_.enc g) (aK TF rfl 0 rfl wz (aI 0 2 il ft sz3 ag3 rfl rfl (vI c.f_i) rfl wz ?_)))))))))))
         obtain ⟨f,Ú,o⟩:=bind_some o
         refine dC sG rfl rfl Ú rfl wz (bE lw rQ rfl (.d (.agg (Log_.enc f))) rfl wz (dA 0 (.inl rfl) z37 rfl wz (λÎ=>jw 0 il ft 3 lw rfl rfl (Log_.v f) rfl wz (af (ak (bg (aK LP rfl 1 rfl wz (aI 1 2 (.inr (by kernel_rfl)) (λ_ _ ag=>trivial) sz3 ag3 rfl rfl (vI c.f_at) rfl wz (aa (vI b.2.2) (uE (vI (jI c.f_at b.2.2)) rfl (.inr rfl) wz (aK LP rfl 1 rfl wz (aI 5 2 (.inr (by kernel_rfl)) (λ_ _ ag=>⟨.inl ⟨rfl,rfl⟩,trivial⟩) sz3 ag3 rfl rfl (vI c.f_at) rfl wz (aK K4 rfl 4 rfl wz (aI 7 3 (.inr (by kernel_rfl)) (λ_ _ ag=>⟨.inl ⟨rfl,rfl⟩,⟨.inl ⟨rfl,rfl⟩,trivial⟩⟩) sz3 ag3 rfl rfl (vI f.Long) rfl wz (aa (vI (w64 (c.f_at+f.Long))) (aa (vI (jI c.f_at b.2.2)) (aa (vI (w64 (c.f_at+f.Long))) (af (ak (ak ?_))))))))))))))))))))
         obtain ⟨æ,G,o⟩:=bind_some o
         refine aR [(0,(vL Log_.enc g)),(1,(vL Beat.enc u)),(9,(gV q 4 b.1)),(10,(gV t 1 b.2.1)),(12,(vI e)),(15,(vI b.2.2)),(17,(.ref Í 0 0)),(18,(.ref Î 0 0)),(19,(vI (jI c.f_at b.2.2))),(20,(vI (w64 (c.f_at+f.Long)))),(67,(vL Placed.enc m.1)),(68,(vI (m.1.length:Int))),(69,(vI (A:Int))),(94,(vB æ))] [(q,gB 4 Play.enc b.1),(t,gB 1 eI b.2.1),(Í,some (.cells 2 [(vI c.f_i),(vI c.f_at)])),(Î,some (.cells 6 (Log_.v f)))] ?_ ?_
         ·refine au (aa (vI (jI c.f_at b.2.2)) (aa (vI (w64 (c.f_at+f.Long))) (aa (vB (decide ((jI c.f_at b.2.2)>=(w64 (c.f_at+f.Long))))) ?_)))
          rcases aj G with⟨Á,G⟩|⟨Á,G⟩
          ·refine aH rfl Á wz (ah (ah (ah (aa (vB true) (af ?_)))))
           obtain rfl:=ae G
           exact cu
          ·refine aH rfl Á wz (aL (vI (jI c.f_at b.2.2)) wa rfl ?_)
           obtain ⟨Ñ,Ô,G⟩:=bind_some G
           refine aB (iH Ô) rfl KV rfl rfl rfl rfl wa (aL (vB (!Ñ)) wa rfl (aa (vB (!Ñ)) (af ?_)))
           obtain rfl:=ae G
           exact cu
         ·rintro ⟨⟩ _ W Q y z
          refine aO _ y z ?_
          rcases aj o with⟨Â,o⟩|⟨Â,o⟩
          ·refine ay rfl Â (ai (aa (gV t 1 b.2.1) (aK TF rfl 0 rfl wz (aI 0 2 il ft sz3 ag3 rfl rfl (vI c.f_i) rfl wz (eu (([c.f_i]:List Int).map eI) pQ zP rfl rfl rfl rfl rfl wz ?_)))))
           obtain ⟨È,Ü,o⟩:=bind_some o
           refine jF 0 il ft (i:=1) Hy Hy sz3 z3 rfl (by decide) by3 (by decide) (λ_=>rfl) rfl rfl rfl Ü wz (λÏ=>aa (gV Ï 1 È) (af (aU (au (dH (bz E Ë) wz rfl (aa (vI ((A+1:Nat):Int)) (af ?_)))))))
           obtain rfl:=ae o
           exact aV (A+1,U,(b.1,È,b.2.2),q,Ï) ⟨J,aX E⟩ (ls_ _) rfl (aG rfl)
          ·refine ax rfl Â (av (ai (aa (gV q 4 b.1) (aK ze rfl 0 rfl wz (aI 0 3 il ft sz9 ag9 rfl rfl (vS f.Player) rfl wz (aK Lr rfl 1 rfl wz (aI 0 3 il ft sz9 ag9 rfl rfl (vS f.Item) rfl wz (aa (vI (jI c.f_at b.2.2)) (aa (vI (w64 (c.f_at+f.Long))) (aa (vI (jI c.f_at b.2.2)) (aa (vI (w64 ((w64 (c.f_at+f.Long))-(jI c.f_at b.2.2)))) (aL (.d (.agg (Play.enc (⟨f.Player,f.Item,(jI c.f_at b.2.2),(w64 ((w64 (c.f_at+f.Long))-(jI c.f_at b.2.2)))⟩:Play)))) wz (by kernel_rfl) (eu (([(⟨f.Player,f.Item,(jI c.f_at b.2.2),(w64 ((w64 (c.f_at+f.Long))-(jI c.f_at b.2.2)))⟩:Play)]:List Play).map Play.enc) IM ez30 rfl rfl rfl rfl rfl wz ?_)))))))))))))
           obtain ⟨É,Ý,o⟩:=bind_some o
           refine jF 0 il ft (i:=0) el30 el30 zV z42 rfl (by decide) by42 (by decide) (λ_=>rfl) rfl rfl rfl Ý wz (λÐ=>aa (gV Ð 4 É) (af (au (aa (vI (w64 (c.f_at+f.Long))) (aa (vI (w64 (c.f_at+f.Long))) (af (au (dH (bz E Ë) wz rfl (aa (vI ((A+1:Nat):Int)) (af ?_))))))))))
           obtain rfl:=ae o
           exact aV (A+1,U,(É,b.2.1,(w64 (c.f_at+f.Long))),Ð,t) ⟨J,aX E⟩ (ls_ _) rfl (aG rfl)
       ·rintro ⟨b,q,t⟩ O W Q y z
        subst O
        refine aO _ y z (au (aa (vI e) (aa (vI e) (af ?_))))
        obtain rfl:=ae n
        exact aV (R,(b.1,b.2.1,e),q,t) H (ls_ _) rfl (aG rfl)
     ·refine ax rfl X (aU ?_)
      obtain rfl:=ae n
      obtain rfl:=ae H
      exact aW ((a.1,a.2.1,a.2.2),l,j) rfl rfl (aG rfl)
   ·rintro ⟨a,l,j⟩ O W Q y z
    subst O
    refine aO _ y z (ai (aa (gV j 1 a.2.1) ?_))
    obtain ⟨M,Ö,h⟩:=bind_some h
    obtain ⟨_,P,h⟩:=bind_some h
    replace P:=iY P
    refine jN 0 [] 1 0 il ft (pW Ö) rfl hb37 rfl rfl rfl (by kernel_rfl) rfl (.inl rfl) rfl (by kernel_rfl) (by kernel_rfl) (by kernel_rfl) (by kernel_rfl) rfl (by decide) (by kernel_rfl) jm (qY P) wz ([(l,gB 4 Play.enc a.1),(j,gB 1 eI M)]:Hp) (by kernel_rfl) (bT (v':=(gV j 1 M)) 10 rfl (jg P.symm) (bT (v':=(gV j 1 M)) 114 rfl (jg P.symm) (af (ai (aa (gV l 4 a.1) (aa (gV j 1 M) (aa (gV l 4 a.1) (aa (gV j 1 M) (aa (vI 0) (af (iq 1 rfl (cO 5 1 rfl rfl (cO 10 1 rfl rfl (cO 114 1 rfl rfl (cO 117 1 rfl rfl ?_)))))))))))))))
    obtain rfl:=ae h
    exact aC (yD (outs:=([]:List Box)) [dl eI M,.int .i64 0] (.inr rfl) 0 rfl ⟨rfl,⟨rfl,trivial⟩⟩ rfl rfl (by kernel_rfl) (by kernel_rfl))
theorem zZ {b:Play} {c:Play} {r:Int} (a:iP b c=some r) :
  FnM Tryz.prog 74 [(.d (.agg (Play.enc b))),(.d (.agg (Play.enc c)))] [] (vI r) []:=by
 refine FnM.of_wH ⟨Tryz.prog,17,[],[]⟩ rfl Tryz.func74 rfl rfl (lb_ rfl) (by kernel_rfl) ?_
 unfold iP at a
 refine ai (ib 0 (.inl rfl) (Play.v b) rfl rfl wz (λk=>ib 0 (.inl rfl) (Play.v c) rfl rfl wz (λl=>aa (vI 0) (af (ak (bg (aK Ew rfl 0 rfl wz (aI 1 0 (.inr (by kernel_rfl)) (λ_ _ ag=>trivial) sz9 ag9 rfl rfl (vS b.Player) rfl wz (aK Ew rfl 0 rfl wz (aI 3 1 (.inr (by kernel_rfl)) (λ_ _ ag=>⟨.inl ⟨rfl,rfl⟩,trivial⟩) sz9 ag9 rfl rfl (vS c.Player) rfl wz ?_))))))))))
 obtain ⟨i,g,a⟩:=bind_some a
 refine aB (jG g) rfl Rm rfl rfl rfl rfl wz (aK xP rfl 2 rfl wz (aI 6 0 (.inr (by kernel_rfl)) (λ_ _ ag=>⟨.inl ⟨rfl,rfl⟩,⟨.inl ⟨rfl,rfl⟩,trivial⟩⟩) sz3 ag3 rfl rfl (vI b.At) rfl wz (aK xP rfl 2 rfl wz (aI 8 1 (.inr (by kernel_rfl)) (λ_ _ ag=>⟨.inl ⟨rfl,rfl⟩,⟨.inl ⟨rfl,rfl⟩,⟨.inl ⟨rfl,rfl⟩,trivial⟩⟩⟩) sz3 ag3 rfl rfl (vI c.At) rfl wz ?_))))
 obtain ⟨j,h,a⟩:=bind_some a
 refine aB (jL h) rfl Ri rfl rfl rfl rfl wz (eu (([i,j]:List Int).map eI) pQ zP rfl rfl rfl rfl rfl wz ?_)
 obtain ⟨e,f,a⟩:=bind_some a
 refine aB (qf f) rfl TE rfl rfl rfl rfl wz (aa (vI e) (af ?_))
 obtain rfl:=ae a
 exact aC (aN [(vI e)] ⟨rfl,trivial⟩)
theorem uW {a:(List Play)} {r:Int} (e:fB a=some r) :
  FnM Tryz.prog 38 [(vL Play.enc a)] [] (vI r) []:=by
 refine FnM.of_wH ⟨Tryz.prog,50,[],[]⟩ rfl Tryz.func38 rfl rfl (lb_ rfl) (by kernel_rfl) ?_
 unfold fB at e
 refine ai (aa (vI 0) (af (ak (ai (aa (vL Play.enc a) (bA Je rfl wz (aa (vB (decide ((a.length:Int)>3000))) (af ?_))))))))
 rcases aj e with⟨u,e⟩|⟨u,e⟩
 ·refine ay rfl u (ai (aa (vI 2) (af ?_)))
  obtain rfl:=ae e
  exact aC (aN [(vI 2)] ⟨rfl,trivial⟩)
 ·refine ax rfl u (av (ak (ai (aa (vL Play.enc a) (bA Je rfl wz (aa (vI 0) (af ?_)))))))
  obtain ⟨R,C,e⟩:=bind_some e
  obtain ⟨J,C⟩:=aY C
  refine bN (λ(p:Unit)=>[]) (λ(p:Unit)=>[]) (λ(c:Nat)=>(λ(p:Unit)=>[(0,(vL Play.enc a)),(8,(vL Play.enc a)),(9,(vI (a.length:Int))),(10,(vI (c:Int)))])) (λk x s=>fC a k x s) R a () C rfl (aG rfl) ?_ ?_
  ·rintro ⟨c,E,p⟩ ⟨j,n⟩
   dsimp only at j n
   cases E with
   | nil =>
    obtain rfl:=ae j
    refine ai (aa (vB (decide ((c:Int)<(a.length:Int)))) (af ?_))
    refine ak (ax rfl (drop_nil n) (aU ?_))
    exact aW (p) rfl rfl (aG rfl)
   | cons f E =>
    obtain ⟨À,b,j⟩:=bind_some j
    refine ai (aa (vB (decide ((c:Int)<(a.length:Int)))) (af ?_))
    refine ak (ay rfl (bu n) (av ?_))
    unfold fC at b
    refine ak (aM (ai (aa (vI (c:Int)) (dC IM rfl rfl (bI n) rfl wz (bE zV Jk rfl (.d (.agg (Play.enc f))) rfl wz (dA 0 (.inl rfl) z42 rfl wz (λo=>aa (vI (c:Int)) (jw 0 il ft 0 zV rfl rfl (Play.v f) rfl wz (af (aM (ak ?_)))))))))))
    obtain ⟨W,g,b⟩:=bind_some b
    refine aR [(0,(vL Play.enc a)),(3,(vI (c:Int))),(4,(.ref o 0 0)),(8,(vL Play.enc a)),(9,(vI (a.length:Int))),(10,(vI (c:Int))),(15,(vB W))] [(o,some (.cells 4 (Play.v f)))] ?_ ?_
    ·refine au (aK Ew rfl 0 rfl wz (aI 0 0 il ft sz9 ag9 rfl rfl (vS f.Player) rfl wz ?_))
     obtain ⟨T,L,g⟩:=bind_some g
     refine aB (eU L) rfl CO rfl rfl rfl rfl wz (aa (vB (!T)) ?_)
     rcases aj g with⟨t,g⟩|⟨t,g⟩
     ·refine aH rfl t wz (ah (ah (ah (ah (aa (vB true) (aa (vB true) (af ?_)))))))
      obtain rfl:=ae g
      exact cu
     ·refine aH rfl t wz (aK K7 rfl 1 rfl wa (aI 0 0 il ft sz9 ag9 rfl rfl (vS f.Item) rfl wa ?_))
      obtain ⟨F,M,g⟩:=bind_some g
      refine aB (eU M) rfl CO rfl rfl rfl rfl wa (aL (vB (!F)) wa rfl (aa (vB (!F)) (aa (vB (!F)) (af ?_))))
      obtain rfl:=ae g
      exact cu
    ·rintro ⟨⟩ _ H q l m
     refine aO _ l m ?_
     rcases aj b with⟨w,b⟩|⟨w,b⟩
     ·refine ay rfl w (ai (aa (vI 5) (af ?_)))
      obtain rfl:=ae b
      obtain rfl:=ae j
      obtain rfl:=ae e
      exact aC (aN [(vI 5)] ⟨rfl,trivial⟩)
     ·refine ax rfl w (ak ?_)
      obtain ⟨X,h,b⟩:=bind_some b
      refine aR [(0,(vL Play.enc a)),(3,(vI (c:Int))),(4,(.ref o 0 0)),(8,(vL Play.enc a)),(9,(vI (a.length:Int))),(10,(vI (c:Int))),(26,(vB X))] [(o,some (.cells 4 (Play.v f)))] ?_ ?_
      ·refine au (aK xP rfl 2 rfl wz (aI 0 0 il ft sz3 ag3 rfl rfl (vI f.At) rfl wz ?_))
       obtain ⟨U,N,h⟩:=bind_some h
       refine aB (iH N) rfl KV rfl rfl rfl rfl wz (aa (vB (!U)) ?_)
       rcases aj h with⟨y,h⟩|⟨y,h⟩
       ·refine aH rfl y wz (ah (ah (ah (aa (vB true) (aa (vB true) (af ?_))))))
        obtain rfl:=ae h
        exact cu
       ·refine aH rfl y wz (aK Tj rfl 3 rfl wa (aI 0 0 il ft sz3 ag3 rfl rfl (vI f.Long) rfl wa ?_))
        obtain ⟨I,O,h⟩:=bind_some h
        refine aB (bf O) rfl qc rfl rfl rfl rfl wa (aa (vB I) (aa (vB I) (af ?_)))
        obtain rfl:=ae h
        exact cu
      ·rintro ⟨⟩ _ H q l m
       refine aO _ l m ?_
       rcases aj b with⟨z,b⟩|⟨z,b⟩
       ·refine ay rfl z (ai (aa (vI 1) (af ?_)))
        obtain rfl:=ae b
        obtain rfl:=ae j
        obtain rfl:=ae e
        exact aC (aN [(vI 1)] ⟨rfl,trivial⟩)
       ·refine ax rfl z (ak ?_)
        obtain ⟨Y,i,b⟩:=bind_some b
        refine aR [(0,(vL Play.enc a)),(8,(vL Play.enc a)),(9,(vI (a.length:Int))),(10,(vI (c:Int))),(36,(vB Y))] [(o,some (.cells 4 (Play.v f)))] ?_ ?_
        ·refine bg (aa (vI (c:Int)) (aa (vB (decide ((c:Int)>0))) ?_))
         rcases aj i with⟨A,i⟩|⟨A,i⟩
         ·refine aH rfl A wz (aL (vL Play.enc a) wa rfl (aL (vI (c:Int)) wa rfl (aL (vI (w64 ((c:Int)-1))) wa rfl ?_)))
          obtain ⟨Z,Q,i⟩:=bind_some i
          refine dC IM rfl rfl Q rfl wa (bE zV Jk rfl (.d (.agg (Play.enc Z))) rfl wa (aI 8 0 (.inr (by kernel_rfl)) (λ_ _ ag=>trivial) zV Jk rfl rfl (.d (.agg (Play.enc f))) rfl wa ?_))
          obtain ⟨G,P,i⟩:=bind_some i
          refine aB (zZ P) rfl hb74 rfl rfl rfl rfl wa (aL (vB (decide (G>=0))) wa rfl (aa (vB (decide (G>=0))) (aa (vB (decide (G>=0))) (af ?_))))
          obtain rfl:=ae i
          exact cu
         ·refine aH rfl A wz (ah (ah (ah (ah (ah (ah (ah (ah (aa (vB false) (aa (vB false) (af ?_)))))))))))
          obtain rfl:=ae i
          exact cu
        ·rintro ⟨⟩ _ H q l m
         refine aO _ l m ?_
         rcases aj b with⟨B,b⟩|⟨B,b⟩
         ·refine ay rfl B (ai (aa (vI 7) (af ?_)))
          obtain rfl:=ae b
          obtain rfl:=ae j
          obtain rfl:=ae e
          exact aC (aN [(vI 7)] ⟨rfl,trivial⟩)
         ·refine ax rfl B (av (au (dH (bz n J) wz rfl (aa (vI ((c+1:Nat):Int)) (af ?_)))))
          obtain rfl:=ae b
          exact aV (c+1,E,()) ⟨j,aX n⟩ (ls_ _) rfl (aG rfl)
  ·rintro p K H q l m
   subst K
   refine aO _ l m (ai (aa (vI 0) (af ?_)))
   obtain rfl:=ae e
   exact aC (aN [(vI 0)] ⟨rfl,trivial⟩)
theorem IX {b:Int} {a:Int} {r:Int} (c:uo b a=some r) :
  FnM Tryz.prog 40 [(vI b),(vI a)] [] (vI r) []:=by
 refine FnM.of_wH ⟨Tryz.prog,12,[],[]⟩ rfl Tryz.func40 rfl rfl (lb_ rfl) (by kernel_rfl) ?_
 unfold uo at c
 refine ai (aa (vI 0) (af (ai (aa (vI b) (aa (vI a) (aa (vI (w64 (a*60000))) (aa (vI (w64 (b+(w64 (a*60000))))) (aa (vI (w64 ((w64 (b+(w64 (a*60000))))+86400000))) (aa (vI (w64 ((w64 ((w64 (b+(w64 (a*60000))))+86400000)).tdiv 86400000))) (aa (vI (w64 ((w64 ((w64 ((w64 (b+(w64 (a*60000))))+86400000)).tdiv 86400000))-1))) (aa (vI (w64 ((w64 ((w64 ((w64 (b+(w64 (a*60000))))+86400000)).tdiv 86400000))-1))) (af ?_))))))))))))
 obtain rfl:=ae c
 exact aC (aN [(vI (w64 ((w64 ((w64 ((w64 (b+(w64 (a*60000))))+86400000)).tdiv 86400000))-1)))] ⟨rfl,trivial⟩)
theorem Db {b:Tally} {c:Tally} {r:Int} (a:mg b c=some r) :
  FnM Tryz.prog 42 [(.d (.agg (Tally.enc b))),(.d (.agg (Tally.enc c)))] [] (vI r) []:=by
 refine FnM.of_wH ⟨Tryz.prog,22,[],[]⟩ rfl Tryz.func42 rfl rfl (lb_ rfl) (by kernel_rfl) ?_
 unfold mg at a
 refine ai (ib 0 (.inl rfl) (Tally.v b) rfl rfl wz (λm=>ib 0 (.inl rfl) (Tally.v c) rfl rfl wz (λn=>aa (vI 0) (af (ak (bg (aK S9 rfl 0 rfl wz (aI 1 0 (.inr (by kernel_rfl)) (λ_ _ ag=>trivial) sz9 ag9 rfl rfl (vS b.Player) rfl wz (aK S9 rfl 0 rfl wz (aI 3 1 (.inr (by kernel_rfl)) (λ_ _ ag=>⟨.inl ⟨rfl,rfl⟩,trivial⟩) sz9 ag9 rfl rfl (vS c.Player) rfl wz ?_))))))))))
 obtain ⟨j,h,a⟩:=bind_some a
 refine aB (jG h) rfl Rm rfl rfl rfl rfl wz (aK TN rfl 1 rfl wz (aI 6 0 (.inr (by kernel_rfl)) (λ_ _ ag=>⟨.inl ⟨rfl,rfl⟩,⟨.inl ⟨rfl,rfl⟩,trivial⟩⟩) sz9 ag9 rfl rfl (vS b.Item) rfl wz (aK TN rfl 1 rfl wz (aI 8 1 (.inr (by kernel_rfl)) (λ_ _ ag=>⟨.inl ⟨rfl,rfl⟩,⟨.inl ⟨rfl,rfl⟩,⟨.inl ⟨rfl,rfl⟩,trivial⟩⟩⟩) sz9 ag9 rfl rfl (vS c.Item) rfl wz ?_))))
 obtain ⟨k,i,a⟩:=bind_some a
 refine aB (jG i) rfl Rm rfl rfl rfl rfl wz (aK Ui rfl 2 rfl wz (aI 11 0 (.inr (by kernel_rfl)) (λ_ _ ag=>⟨.inl ⟨rfl,rfl⟩,⟨.inl ⟨rfl,rfl⟩,⟨.inl ⟨rfl,rfl⟩,⟨.inl ⟨rfl,rfl⟩,trivial⟩⟩⟩⟩) sz3 ag3 rfl rfl (vI b.Day) rfl wz (aK Ui rfl 2 rfl wz (aI 13 1 (.inr (by kernel_rfl)) (λ_ _ ag=>⟨.inl ⟨rfl,rfl⟩,⟨.inl ⟨rfl,rfl⟩,⟨.inl ⟨rfl,rfl⟩,⟨.inl ⟨rfl,rfl⟩,⟨.inl ⟨rfl,rfl⟩,trivial⟩⟩⟩⟩⟩) sz3 ag3 rfl rfl (vI c.Day) rfl wz ?_))))
 obtain ⟨l,f,a⟩:=bind_some a
 refine aB (jL f) rfl Ri rfl rfl rfl rfl wz (eu (([j,k,l]:List Int).map eI) pQ zP rfl rfl rfl rfl rfl wz ?_)
 obtain ⟨e,g,a⟩:=bind_some a
 refine aB (qf g) rfl TE rfl rfl rfl rfl wz (aa (vI e) (af ?_))
 obtain rfl:=ae a
 exact aC (aN [(vI e)] ⟨rfl,trivial⟩)
theorem CL {k:Int} {r:Int} (a:uR k=some r) :
  FnM Tryz.prog 111 [(.d (.int .u64 k))] [] (vI r) []:=by
 refine FnM.of_wH ⟨Tryz.prog,25,[],[]⟩ rfl Tryz.func111 rfl rfl (lb_ rfl) (by kernel_rfl) ?_
 unfold uR at a
 refine ai (aa (vI 0) (af (ak (ai (aa (.d (.int .u64 k)) (aa (vB (decide (k>=4294967296))) (af ?_)))))))
 obtain ⟨b,f,a⟩:=bind_some a
 refine aR [(0,(.d (.int .u64 b.1))),(2,(vI b.2))] [] ?_ ?_
 ·rcases aj f with⟨n,f⟩|⟨n,f⟩
  ·refine ay rfl n (ai (aa (.d (.int .u64 k)) ?_))
   obtain ⟨y,v,f⟩:=bind_some f
   refine Mt rfl rfl v wz (aa (.d (.int .u64 y)) (af (au (aa (vI 32) (af ?_)))))
   obtain rfl:=ae f
   exact cu
  ·refine ax rfl n (av ?_)
   obtain rfl:=ae f
   exact cu
 ·rintro ⟨⟩ _ q p i j
  refine aO _ i j (ak (ai (aa (.d (.int .u64 b.1)) (aa (vB (decide (b.1>=65536))) (af ?_)))))
  obtain ⟨c,g,a⟩:=bind_some a
  refine aR [(0,(.d (.int .u64 c.1))),(2,(vI c.2))] [] ?_ ?_
  ·rcases aj g with⟨o,g⟩|⟨o,g⟩
   ·refine ay rfl o (ai (aa (.d (.int .u64 b.1)) ?_))
    obtain ⟨w,t,g⟩:=bind_some g
    refine Mt rfl rfl t wz (aa (.d (.int .u64 w)) (af (au (aa (vI b.2) (aa (vI (w64 (b.2+16))) (aa (vI (w64 (b.2+16))) (af ?_)))))))
    obtain rfl:=ae g
    exact cu
   ·refine ax rfl o (av ?_)
    obtain rfl:=ae g
    exact cu
  ·rintro ⟨⟩ _ q p i j
   refine aO _ i j (ak (ai (aa (.d (.int .u64 c.1)) (aa (vB (decide (c.1>=256))) (af ?_)))))
   obtain ⟨h,e,a⟩:=bind_some a
   refine aR [(0,(.d (.int .u64 h.1))),(2,(vI h.2))] [] ?_ ?_
   ·rcases aj e with⟨m,e⟩|⟨m,e⟩
    ·refine ay rfl m (ai (aa (.d (.int .u64 c.1)) ?_))
     obtain ⟨x,u,e⟩:=bind_some e
     refine Mt rfl rfl u wz (aa (.d (.int .u64 x)) (af (au (aa (vI c.2) (aa (vI (w64 (c.2+8))) (aa (vI (w64 (c.2+8))) (af ?_)))))))
     obtain rfl:=ae e
     exact cu
    ·refine ax rfl m (av ?_)
     obtain rfl:=ae e
     exact cu
   ·rintro ⟨⟩ _ q p i j
    refine aO _ i j (ai (aa (vI h.2) (aa (.d (.int .u64 h.1)) (rY Kg un5 rfl wz ?_))))
    obtain ⟨l,s,a⟩:=bind_some a
    refine zg un9 rfl rfl s wz (rY un5 un3 rfl wz (aa (vI (w64 (h.2+(w64 (l.toNat:Int))))) (aa (vI (w64 (h.2+(w64 (l.toNat:Int))))) (af ?_))))
    obtain rfl:=ae a
    exact aC (aN [(vI (w64 (h.2+(w64 (l.toNat:Int)))))] ⟨rfl,trivial⟩)
theorem yw {b:Int} {r:Int} (a:kI b=some r) :
  FnM Tryz.prog 73 [(.d (.int .u64 b))] [] (vI r) []:=by
 refine FnM.of_wH ⟨Tryz.prog,8,[],[]⟩ rfl Tryz.func73 rfl rfl (lb_ rfl) (by kernel_rfl) ?_
 unfold kI at a
 refine ai (aa (vI 0) (af (ak (ax rfl rfl (av (ai (aa (.d (.int .u64 b)) ?_)))))))
 obtain ⟨c,e,a⟩:=bind_some a
 refine aB (CL e) rfl hb111 rfl rfl rfl rfl wz (aa (vI c) (af ?_))
 obtain rfl:=ae a
 exact aC (aN [(vI c)] ⟨rfl,trivial⟩)
theorem mZ {k:(List Tally)} {f:Int} {h:Int} {r:(List Tally)} (p:fD k f h=some r) :
  FnM Tryz.prog 112 [(dV (aA 0) 5 k),(vI f),(vI h),(.fn 42 [])] (([]:List Box)++gI 5 Tally.enc k) (.tup []) (([]:List Box).map some++gT k (gB 5 Tally.enc r)):=by
 refine FnM.of_wHv ⟨Tryz.prog,53,[],[]⟩ rfl Tryz.func112 rfl rfl (lb_ rfl) (by kernel_rfl) ?_
 unfold fD at p
 refine ai (aa (vI f) (aa (vI (w64 (f+1))) (aa (vI (w64 (f+1))) (af ?_))))
 obtain ⟨Z,y,p⟩:=bind_some p
 obtain ⟨Y,y⟩:=bv y
 refine cB (λ(c:(List Tally)×Int)=>[]) (λ(c:(List Tally)×Int)=>[((aA 0),gB 5 Tally.enc c.1)]) (λ(u:Nat)=>(λ(c:(List Tally)×Int)=>[(0,(dV (aA 0) 5 c.1)),(1,(vI f)),(2,(vI h)),(3,(.fn 42 [])),(8,(vI c.2))])) (λs=>eF h f s) Z Y (k,(w64 (f+1))) y rfl (aG rfl) ?_ ?_
 ·rintro ⟨u,c⟩ l
  dsimp only at l
  cases u with
  | zero=>cases l
  | succ u =>
   obtain ⟨L,j,l⟩:=bind_some l
   unfold eF at j
   refine ak (ai (aa (vI c.2) (aa (vI h) (aa (vB (decide (c.2<h))) (af ?_)))))
   rcases aj j with⟨v,j⟩|⟨v,j⟩
   ·refine ay rfl v (av (ak (aM (ai (aa (vI c.2) (aa (vI c.2) (af ?_)))))))
    obtain ⟨À,z,j⟩:=bind_some j
    obtain ⟨X,z⟩:=bv z
    refine cB (λ(a:(List Tally)×Int)=>[(0,(dV (aA 0) 5 a.1)),(1,(vI f)),(2,(vI h)),(3,(.fn 42 [])),(8,(vI c.2))]) (λ(a:(List Tally)×Int)=>[((aA 0),gB 5 Tally.enc a.1)]) (λ(t:Nat)=>(λ(a:(List Tally)×Int)=>[(0,(dV (aA 0) 5 a.1)),(1,(vI f)),(2,(vI h)),(3,(.fn 42 [])),(8,(vI c.2)),(9,(vI a.2))])) (λs=>eH f s) À X (c.1,c.2) z rfl (aG rfl) ?_ ?_
    ·rintro ⟨t,a⟩ m
     dsimp only at m
     cases t with
     | zero=>cases m
     | succ t =>
      obtain ⟨L,b,m⟩:=bind_some m
      unfold eH at b
      refine ak (ak ?_)
      obtain ⟨Á,e,b⟩:=bind_some b
      refine aR [(0,(dV (aA 0) 5 a.1)),(1,(vI f)),(2,(vI h)),(3,(.fn 42 [])),(8,(vI c.2)),(9,(vI a.2)),(34,(vB Á))] [((aA 0),gB 5 Tally.enc a.1)] ?_ ?_
      ·refine bg (aa (vI a.2) (aa (vI f) (aa (vB (decide (a.2>f))) ?_)))
       rcases aj e with⟨w,e⟩|⟨w,e⟩
       ·refine aH rfl w wz (aL (.fn 42 []) wa rfl (aL (dV (aA 0) 5 a.1) wa rfl (aL (vI a.2) wa rfl ?_)))
        obtain ⟨_,C,e⟩:=bind_some e
        refine je Ms rfl rfl (ik C) (dN C) wa ?_
        obtain ⟨M,P,e⟩:=bind_some e
        refine kw 8 0 (.inr (by kernel_rfl)) (λ_ _ ag=>trivial) AP GV rfl rfl P (.d (.agg (Tally.enc M))) rfl wa (aL (dV (aA 0) 5 a.1) wa rfl (aL (vI a.2) wa rfl (aL (vI (w64 (a.2-1))) wa rfl ?_)))
        obtain ⟨_,E,e⟩:=bind_some e
        refine je Ms rfl rfl (ik E) (dN E) wa ?_
        obtain ⟨N,Q,e⟩:=bind_some e
        refine kw 13 0 (.inr (by kernel_rfl)) (λ_ _ ag=>⟨.inl ⟨rfl,rfl⟩,trivial⟩) AP GV rfl rfl Q (.d (.agg (Tally.enc N))) rfl wa ?_
        obtain ⟨J,O,e⟩:=bind_some e
        refine aB (Db O) rfl hb42 rfl rfl rfl rfl wa (aL (vB (decide (J<0))) wa rfl (aa (vB (decide (J<0))) (af ?_)))
        obtain rfl:=ae e
        exact cu
       ·refine aH rfl w wz (ah (ah (ah (ah (ah (ah (ah (ah (ah (ah (ah (ah (aa (vB false) (af ?_))))))))))))))
        obtain rfl:=ae e
        exact cu
      ·rintro ⟨⟩ _ K B q n
       refine aO _ q n ?_
       rcases aj b with⟨x,b⟩|⟨x,b⟩
       ·refine ay rfl x (av (ak (aM (bg (aa (dV (aA 0) 5 a.1) (aa (vI a.2) (aa (dV (aA 0) 5 a.1) (aa (vI a.2) (aa (vI (w64 (a.2-1))) (aa (dV (aA 0) 5 a.1) (aa (vI a.2) (aa (vI (w64 (a.2-1))) ?_))))))))))))
        obtain ⟨_,F,b⟩:=bind_some b
        refine je Ms rfl rfl (ik F) (dN F) wz ?_
        obtain ⟨g,R,b⟩:=bind_some b
        refine kw 9 0 (.inr (by kernel_rfl)) (λ_ _ ag=>trivial) AP GV rfl rfl R (.d (.agg (Tally.enc g))) rfl wz (aa (dV (aA 0) 5 a.1) (aa (vI a.2) ?_))
        obtain ⟨_,G,b⟩:=bind_some b
        refine je Ms rfl rfl (ik G) (dN G) wz ?_
        obtain ⟨i,T,b⟩:=bind_some b
        refine kw 13 0 (.inr (by kernel_rfl)) (λ_ _ ag=>⟨.inl ⟨rfl,rfl⟩,trivial⟩) AP GV rfl rfl T (.d (.agg (Tally.enc i))) rfl wz ?_
        obtain ⟨_,H,b⟩:=bind_some b
        refine je Ms rfl rfl (ik H) (dN H) wz ?_
        obtain ⟨Â,U,b⟩:=bind_some b
        refine sw 15 (.inr (by kernel_rfl)) (λ_ _ ag=>⟨.inr (.inr (by kernel_rfl)),⟨.inr (.inr (by kernel_rfl)),trivial⟩⟩) 0 AP rfl rfl U g rfl wz (bT (v':=(dV (aA 0) 5 (a.1.set (0+(a.2).toNat) g))) 0 rfl (bC (by simp)) (bT (v':=(dV (aA 0) 5 (a.1.set (0+(a.2).toNat) g))) 37 rfl (bC (by simp)) (bT (v':=(dV (aA 0) 5 (a.1.set (0+(a.2).toNat) g))) 39 rfl (bC (by simp)) (bT (v':=(dV (aA 0) 5 (a.1.set (0+(a.2).toNat) g))) 42 rfl (bC (by simp)) (bT (v':=(dV (aA 0) 5 (a.1.set (0+(a.2).toNat) g))) 47 rfl (bC (by simp)) ?_)))))
        obtain ⟨_,I,b⟩:=bind_some b
        refine je Ms rfl rfl (ik I) (dN I) wz ?_
        obtain ⟨Ã,W,b⟩:=bind_some b
        refine sw 17 (.inr (by kernel_rfl)) (λ_ _ ag=>⟨.inr (.inr (by kernel_rfl)),⟨.inr (.inr (by kernel_rfl)),⟨.inr (.inr (by kernel_rfl)),trivial⟩⟩⟩) 0 AP rfl rfl W i rfl wz (bT (v':=(dV (aA 0) 5 ((a.1.set (0+(a.2).toNat) g).set (0+((w64 (a.2-1))).toNat) i))) 0 rfl (bC (by simp)) (bT (v':=(dV (aA 0) 5 ((a.1.set (0+(a.2).toNat) g).set (0+((w64 (a.2-1))).toNat) i))) 37 rfl (bC (by simp)) (bT (v':=(dV (aA 0) 5 ((a.1.set (0+(a.2).toNat) g).set (0+((w64 (a.2-1))).toNat) i))) 39 rfl (bC (by simp)) (bT (v':=(dV (aA 0) 5 ((a.1.set (0+(a.2).toNat) g).set (0+((w64 (a.2-1))).toNat) i))) 42 rfl (bC (by simp)) (bT (v':=(dV (aA 0) 5 ((a.1.set (0+(a.2).toNat) g).set (0+((w64 (a.2-1))).toNat) i))) 47 rfl (bC (by simp)) (af (au (aa (vI a.2) (aa (vI (w64 (a.2-1))) (aa (vI (w64 (a.2-1))) (af ?_)))))))))))
        obtain rfl:=ae b
        exact aV (t,(((a.1.set (0+(a.2).toNat) g).set (0+((w64 (a.2-1))).toNat) i),(w64 (a.2-1)))) m (ls_ _) rfl (aG rfl)
       ·refine ax rfl x (aU ?_)
        obtain rfl:=ae b
        obtain rfl:=ae m
        exact aW ((a.1,a.2)) rfl rfl (aG rfl)
    ·rintro a A K B q n
     subst A
     refine aO _ q n (au (aa (vI c.2) (aa (vI (w64 (c.2+1))) (aa (vI (w64 (c.2+1))) (af ?_)))))
     obtain rfl:=ae j
     exact aV (u,(a.1,(w64 (c.2+1)))) l (ls_ _) rfl (aG rfl)
   ·refine ax rfl v (aU ?_)
    obtain rfl:=ae j
    obtain rfl:=ae l
    exact aW ((c.1,c.2)) rfl rfl (aG rfl)
 ·rintro c A K B q n
  subst A
  show qI _ _ _ _ _ _ _ _
  obtain rfl:=ae p
  exact qz (H0:=([((aA 0),gB 5 Tally.enc c.1)]:Hp)) (sl':=envS []) n (oq (bs:=([]:List Box)) (os:=([]:List Box)) (xs:=k) (o:=gB 5 Tally.enc c.1) (.inl rfl) [] trivial rfl rfl rfl rfl rfl (by kernel_rfl) jm rfl)
theorem pE {a:(List Tally)} {c:Int} {d:Int} {e:Int} {r:(List Tally)} (f:iI a c d e=some r) :
  FnM Tryz.prog 75 [(dV (aA 0) 5 a),(vI c),(vI d),(vI e),(.fn 42 [])] (([]:List Box)++gI 5 Tally.enc a) (.tup []) (([]:List Box).map some++gT a (gB 5 Tally.enc r)):=by
 refine FnM.of_wHv ⟨Tryz.prog,148,[],[]⟩ rfl Tryz.func75 rfl rfl (lb_ rfl) (by kernel_rfl) ?_
 unfold iI at f
 refine ai (aa (vB true) (af (ai (aa (vB true) (af ?_)))))
 obtain ⟨v,m,f⟩:=bind_some f
 obtain ⟨u,m⟩:=bv m
 refine cB (λ(j:Unit)=>[]) (λ(j:Unit)=>[((aA 0),gB 5 Tally.enc a)]) (λ(n:Nat)=>(λ(j:Unit)=>[(0,(dV (aA 0) 5 a)),(1,(vI c)),(2,(vI d)),(3,(vI e)),(4,(.fn 42 [])),(10,(vB true)),(11,(vB true))])) (λs=>gD d c a e s) v u () m rfl (aG rfl) ?_ ?_
 ·rintro ⟨n,j⟩ g
  dsimp only at g
  cases n with
  | zero=>cases g
  | succ n =>
   obtain ⟨x,b,g⟩:=bind_some g
   unfold gD at b
   refine aM (ai (aa (vI d) (aa (vI c) (aa (vI (w64 (d-c))) (aa (vI (w64 (d-c))) (af (ak (ai (aa (vI (w64 (d-c))) (aa (vB (decide ((w64 (d-c))<=12))) (af ?_)))))))))))
   rcases aj b with⟨k,b⟩|⟨k,b⟩
   ·refine ay rfl k (ai (aa (dV (aA 0) 5 a) (aa (vI c) (aa (vI d) (aa (.fn 42 []) ?_)))))
    obtain ⟨i,t,b⟩:=bind_some b
    obtain ⟨_,h,b⟩:=bind_some b
    replace h:=iY h
    refine jN 0 [] 0 0 il ft (mZ t) rfl hb112 rfl rfl rfl (by kernel_rfl) rfl (.inr (.inl rfl)) rfl (by kernel_rfl) (by kernel_rfl) (by kernel_rfl) (by kernel_rfl) rfl (by decide) (by kernel_rfl) jm (qY h) wz ([((aA 0),gB 5 Tally.enc i)]:Hp) (by kernel_rfl) (bT (v':=(dV (aA 0) 5 i)) 0 rfl (bC h.symm) (bT (v':=(dV (aA 0) 5 i)) 26 rfl (bC h.symm) (af ?_)))
    obtain rfl:=ae b
    obtain rfl:=ae g
    obtain rfl:=ae f
    exact aC (oq (bs:=([]:List Box)) (os:=([]:List Box)) (xs:=a) (o:=gB 5 Tally.enc i) (.inr rfl) [] trivial rfl rfl rfl rfl rfl (by kernel_rfl) jm rfl)
   ·refine ax rfl k (av (ak (ai (aa (vI e) (aa (vB (e==0)) (af ?_))))))
    rcases aj b with⟨l,b⟩|⟨l,b⟩
    ·refine ay rfl l (ai (aa (dV (aA 0) 5 a) (aa (vI c) (aa (vI d) (aa (.fn 42 []) ?_)))))
     cases b
    ·refine ax rfl l (av (ak (ai (aa (vB true) (aa (vB false) (af (ax rfl rfl (av (ai (aa (dV (aA 0) 5 a) (aa (vI c) (aa (vI d) (aa (.fn 42 []) ?_)))))))))))))
     cases b
 ·rintro j p z w y q
  subst p
  show qI _ _ _ _ _ _ _ _
  obtain rfl:=ae f
  exact qz (H0:=([((aA 0),gB 5 Tally.enc a)]:Hp)) (sl':=envS []) q (oq (bs:=([]:List Box)) (os:=([]:List Box)) (xs:=a) (o:=gB 5 Tally.enc a) (.inl rfl) [] trivial rfl rfl rfl rfl rfl (by kernel_rfl) jm rfl)
theorem nJ {a:(List Tally)} {r:(List Tally)} (b:bO a=some r) :
  FnM Tryz.prog 41 [(dV (aA 0) 5 a),(.fn 42 [])] (([]:List Box)++gI 5 Tally.enc a) (.tup []) (([]:List Box).map some++gT a (gB 5 Tally.enc r)):=by
 refine FnM.of_wHv ⟨Tryz.prog,14,[],[]⟩ rfl Tryz.func41 rfl rfl (lb_ rfl) (by kernel_rfl) ?_
 unfold bO at b
 refine ai (aa (dV (aA 0) 5 a) (xR un43 rfl wz (aa (vI (a.length:Int)) (af (au (aa (dV (aA 0) 5 a) (aa (vI (a.length:Int)) (aa (vI (a.length:Int)) (rY un3 Io rfl wz ?_)))))))))
 obtain ⟨g,e,b⟩:=bind_some b
 refine aB (yw e) rfl hb73 rfl rfl rfl rfl wz (aa (.fn 42 []) ?_)
 obtain ⟨d,f,b⟩:=bind_some b
 obtain ⟨_,c,b⟩:=bind_some b
 replace c:=iY c
 refine jN 0 [] 0 0 il ft (pE f) rfl hb75 rfl rfl rfl (by kernel_rfl) rfl (.inr (.inl rfl)) rfl (by kernel_rfl) (by kernel_rfl) (by kernel_rfl) (by kernel_rfl) rfl (by decide) (by kernel_rfl) jm (qY c) wz ([((aA 0),gB 5 Tally.enc d)]:Hp) (by kernel_rfl) (bT (v':=(dV (aA 0) 5 d)) 0 rfl (bC c.symm) (bT (v':=(dV (aA 0) 5 d)) 5 rfl (bC c.symm) (bT (v':=(dV (aA 0) 5 d)) 7 rfl (bC c.symm) (af ?_))))
 show qI _ _ _ _ _ _ _ _
 obtain rfl:=ae b
 exact oq (bs:=([]:List Box)) (os:=([]:List Box)) (xs:=a) (o:=gB 5 Tally.enc d) (.inl rfl) [] trivial rfl rfl rfl rfl rfl (by kernel_rfl) jm rfl
end Go.Proofs.YtnfojnnfidnikaeGreatDoor.Law

