/-
 The machine computes these plain functions (written by a program of ours).
-/
import Derived.Test.YtnfojnnfidnikaeGreatDoorFacts
import Derived.Test.YtnfojnnfidnikaeGreatDoorDefs
import Derived.Test.YtnfojnnfidnikaeGreatDoorPf7
open Go Go.Eng Go.Proofs
namespace Go.Proofs.YtnfojnnfidnikaeGreatDoor.Law
set_option maxRecDepth 100000
set_option linter.unusedVariables false
set_option maxHeartbeats 1000000
theorem BM {b:(List Post)} {r:Int} (e:mR b=some r) :
  FnM Tryz.prog 142 [(vL Post.enc b)] [] (vI r) []:=by
 refine FnM.of_wH ⟨Tryz.prog,44,[],[]⟩ rfl Tryz.func142 rfl rfl (lb_ rfl) (by kernel_rfl) ?_
 unfold mR at e
 refine ai (aa (vI 0) (af (ak (ai (aa (vL Post.enc b) (bA un160 rfl wz (aa (vB (decide ((b.length:Int)>500))) (af ?_))))))))
 rcases aj e with⟨q,e⟩|⟨q,e⟩
 ·refine ay rfl q (ai (aa (vI 2) (af ?_)))
  obtain rfl:=ae e
  exact aC (aN [(vI 2)] ⟨rfl,trivial⟩)
 ·refine ax rfl q (av (ak (ai (aa (vL Post.enc b) (bA un160 rfl wz (aa (vI 0) (af ?_)))))))
  obtain ⟨N,z,e⟩:=bind_some e
  obtain ⟨H,z⟩:=aY z
  refine bN (λ(o:Unit)=>[]) (λ(o:Unit)=>[]) (λ(c:Nat)=>(λ(o:Unit)=>[(0,(vL Post.enc b)),(8,(vL Post.enc b)),(9,(vI (b.length:Int))),(10,(vI (c:Int)))])) (λk x s=>kH b k x s) N b () z rfl (aG rfl) ?_ ?_
  ·rintro ⟨c,A,o⟩ ⟨h,l⟩
   dsimp only at h l
   cases A with
   | nil =>
    obtain rfl:=ae h
    refine ai (aa (vB (decide ((c:Int)<(b.length:Int)))) (af ?_))
    refine ak (ax rfl (drop_nil l) (aU ?_))
    exact aW (o) rfl rfl (aG rfl)
   | cons f A =>
    obtain ⟨Q,a,h⟩:=bind_some h
    refine ai (aa (vB (decide ((c:Int)<(b.length:Int)))) (af ?_))
    refine ak (ay rfl (bu l) (av ?_))
    unfold kH at a
    refine ak (aM (ai (aa (vI (c:Int)) (dC TB rfl rfl (bI l) rfl wz (bE PT Ug rfl (.d (.agg (Post.enc f))) rfl wz (dA 0 (.inl rfl) z123 rfl wz (λB=>aa (vI (c:Int)) (jw 0 il ft 0 PT rfl rfl (Post.v f) rfl wz (af (aM (ai (aK LB rfl 0 rfl wz (aI 0 0 il ft sz9 ag9 rfl rfl (vS f.Player) rfl wz ?_)))))))))))))
    obtain ⟨E,J,a⟩:=bind_some a
    refine aB (eU J) rfl CO rfl rfl rfl rfl wz (aa (vB (!E)) (aa (vB (!E)) (af ?_)))
    rcases aj a with⟨p,a⟩|⟨p,a⟩
    ·refine ay rfl p (ai (aa (vI 5) (af ?_)))
     obtain rfl:=ae a
     obtain rfl:=ae h
     obtain rfl:=ae e
     exact aC (aN [(vI 5)] ⟨rfl,trivial⟩)
    ·refine ax rfl p (ak ?_)
     obtain ⟨O,g,a⟩:=bind_some a
     refine aR [(0,(vL Post.enc b)),(3,(vI (c:Int))),(4,(.ref B 0 0)),(8,(vL Post.enc b)),(9,(vI (b.length:Int))),(10,(vI (c:Int))),(20,(vB O))] [(B,some (.cells 3 (Post.v f)))] ?_ ?_
     ·refine au (aK LA rfl 1 rfl wz (aI 0 0 il ft sz3 ag3 rfl rfl (vI f.X) rfl wz ?_))
      obtain ⟨R,K,g⟩:=bind_some g
      refine aB (bf K) rfl qc rfl rfl rfl rfl wz ?_
      rcases aj g with⟨t,g⟩|⟨t,g⟩
      ·refine aH rfl t wz (ah (ah (ah (aa (vB true) (aa (vB true) (af ?_))))))
       obtain rfl:=ae g
       exact cu
      ·refine aH rfl t wz (aK Ls rfl 2 rfl wa (aI 0 0 il ft sz3 ag3 rfl rfl (vI f.Y) rfl wa ?_))
       obtain ⟨F,L,g⟩:=bind_some g
       refine aB (bf L) rfl qc rfl rfl rfl rfl wa (aa (vB F) (aa (vB F) (af ?_)))
       obtain rfl:=ae g
       exact cu
     ·rintro ⟨⟩ _ G C m n
      refine aO _ m n ?_
      rcases aj a with⟨u,a⟩|⟨u,a⟩
      ·refine ay rfl u (ai (aa (vI 1) (af ?_)))
       obtain rfl:=ae a
       obtain rfl:=ae h
       obtain rfl:=ae e
       exact aC (aN [(vI 1)] ⟨rfl,trivial⟩)
      ·refine ax rfl u (ak ?_)
       obtain ⟨P,i,a⟩:=bind_some a
       refine aR [(0,(vL Post.enc b)),(8,(vL Post.enc b)),(9,(vI (b.length:Int))),(10,(vI (c:Int))),(29,(vB P))] [(B,some (.cells 3 (Post.v f)))] ?_ ?_
       ·refine bg (aa (vI (c:Int)) (aa (vB (decide ((c:Int)>0))) ?_))
        rcases aj i with⟨w,i⟩|⟨w,i⟩
        ·refine aH rfl w wz (aK LB rfl 0 rfl wa (aI 4 0 (.inr (by kernel_rfl)) (λ_ _ ag=>trivial) sz9 ag9 rfl rfl (vS f.Player) rfl wa (aL (vL Post.enc b) wa rfl (aL (vI (c:Int)) wa rfl (aL (vI (w64 ((c:Int)-1))) wa rfl ?_)))))
         obtain ⟨j,M,i⟩:=bind_some i
         refine dC TB rfl rfl M rfl wa (qh LB rfl [.str j.Player,.int .i64 j.X,.int .i64 j.Y] rfl rfl wa (bE sz9 ag9 rfl (vS j.Player) rfl wa (aL (vB (sLe f.Player j.Player)) wa rfl (aa (vB (sLe f.Player j.Player)) (aa (vB (sLe f.Player j.Player)) (af ?_))))))
         obtain rfl:=ae i
         exact cu
        ·refine aH rfl w wz (ah (ah (ah (ah (ah (ah (ah (ah (ah (aa (vB false) (aa (vB false) (af ?_))))))))))))
         obtain rfl:=ae i
         exact cu
       ·rintro ⟨⟩ _ G C m n
        refine aO _ m n ?_
        rcases aj a with⟨y,a⟩|⟨y,a⟩
        ·refine ay rfl y (ai (aa (vI 7) (af ?_)))
         obtain rfl:=ae a
         obtain rfl:=ae h
         obtain rfl:=ae e
         exact aC (aN [(vI 7)] ⟨rfl,trivial⟩)
        ·refine ax rfl y (av (au (dH (bz l H) wz rfl (aa (vI ((c+1:Nat):Int)) (af ?_)))))
         obtain rfl:=ae a
         exact aV (c+1,A,()) ⟨h,aX l⟩ (ls_ _) rfl (aG rfl)
  ·rintro o I G C m n
   subst I
   refine aO _ m n (ai (aa (vI 0) (af ?_)))
   obtain rfl:=ae e
   exact aC (aN [(vI 0)] ⟨rfl,trivial⟩)
theorem Cu {d:(List Alert)} {e:(List Post)} {r:Int} (a:nM d e=some r) :
  FnM Tryz.prog 93 [(vL Alert.enc d),(vL Post.enc e)] [] (vI r) []:=by
 refine FnM.of_wH ⟨Tryz.prog,13,[],[]⟩ rfl Tryz.func93 rfl rfl (lb_ rfl) (by kernel_rfl) ?_
 unfold nM at a
 refine ai (aa (vI 0) (af (ak (ai (aa (vL Alert.enc d) ?_)))))
 obtain ⟨b,g,a⟩:=bind_some a
 refine aB (AY g) rfl hb141 rfl rfl rfl rfl wz (aa (vI b) (af (ai (aa (vI b) (aa (vB (b != 0)) (af ?_))))))
 rcases aj a with⟨c,a⟩|⟨c,a⟩
 ·refine ay rfl c (ai (aa (vI b) (aa (vI b) (af ?_))))
  obtain rfl:=ae a
  exact aC (aN [(vI b)] ⟨rfl,trivial⟩)
 ·refine ax rfl c (av (ai (aa (vL Post.enc e) ?_)))
  obtain ⟨f,h,a⟩:=bind_some a
  refine aB (BM h) rfl hb142 rfl rfl rfl rfl wz (aa (vI f) (af ?_))
  obtain rfl:=ae a
  exact aC (aN [(vI f)] ⟨rfl,trivial⟩)
theorem Cv {a:Rect} {b:Post} {r:Bool} (e:uO a b=some r) :
  FnM Tryz.prog 144 [(.d (.agg (Rect.enc a))),(.ref (aA 0) 0 0)] [(.cells 3 (Post.v b))] (vB r) [some (.cells 3 (Post.v b))]:=by
 refine FnM.of_wH ⟨Tryz.prog,36,[],[]⟩ rfl Tryz.func144 rfl rfl (lb_ rfl) (by kernel_rfl) ?_
 unfold uO at e
 refine ai (ib 0 (.inl rfl) (Rect.v a) rfl rfl wz (λl=>aa (vB false) (af (ak ?_))))
 obtain ⟨i,c,e⟩:=bind_some e
 refine aR [(3,(vB i))] [((aA 0),some (.cells 3 (Post.v b))),(l,some (.cells 4 (Rect.v a)))] ?_ ?_
 ·refine au (aK Bl rfl 0 rfl wz (aI 0 1 il ft sz3 ag3 rfl rfl (vI a.X) rfl wz (aK LA rfl 1 rfl wz (aI 0 0 il ft sz3 ag3 rfl rfl (vI b.X) rfl wz (aa (vB (decide (a.X<=b.X))) ?_)))))
  rcases aj c with⟨f,c⟩|⟨f,c⟩
  ·refine aH rfl f wz (aK LA rfl 1 rfl wa (aI 0 0 il ft sz3 ag3 rfl rfl (vI b.X) rfl wa (aK Bl rfl 0 rfl wa (aI 0 1 il ft sz3 ag3 rfl rfl (vI a.X) rfl wa (aK Gp rfl 2 rfl wa (aI 0 1 il ft sz3 ag3 rfl rfl (vI a.W) rfl wa (aL (vI (w64 (a.X+a.W))) wa rfl (aL (vB (decide (b.X<(w64 (a.X+a.W))))) wa rfl (aa (vB (decide (b.X<(w64 (a.X+a.W))))) ?_)))))))))
   rcases aj c with⟨g,c⟩|⟨g,c⟩
   ·refine aH rfl g wz (aK xz rfl 1 rfl wa (aI 0 1 il ft sz3 ag3 rfl rfl (vI a.Y) rfl wa (aK Ls rfl 2 rfl wa (aI 0 0 il ft sz3 ag3 rfl rfl (vI b.Y) rfl wa (aL (vB (decide (a.Y<=b.Y))) wa rfl (aa (vB (decide (a.Y<=b.Y))) ?_))))))
    rcases aj c with⟨h,c⟩|⟨h,c⟩
    ·refine aH rfl h wz (aK Ls rfl 2 rfl wa (aI 0 0 il ft sz3 ag3 rfl rfl (vI b.Y) rfl wa (aK xz rfl 1 rfl wa (aI 0 1 il ft sz3 ag3 rfl rfl (vI a.Y) rfl wa (aK Dl rfl 3 rfl wa (aI 0 1 il ft sz3 ag3 rfl rfl (vI a.H) rfl wa (aL (vI (w64 (a.Y+a.H))) wa rfl (aL (vB (decide (b.Y<(w64 (a.Y+a.H))))) wa rfl (aa (vB (decide (b.Y<(w64 (a.Y+a.H))))) (aa (vB (decide (b.Y<(w64 (a.Y+a.H))))) (af ?_)))))))))))
     obtain rfl:=ae c
     exact cu
    ·refine aH rfl h wz (ah (ah (ah (ah (ah (ah (ah (ah (aa (vB false) (aa (vB false) (af ?_)))))))))))
     obtain rfl:=ae c
     exact cu
   ·refine aH rfl g wz (ah (ah (ah (ah (ah (aa (vB false) (aa (vB false) (ah (ah (ah (ah (ah (ah (ah (ah (aa (vB false) (aa (vB false) (af ?_))))))))))))))))))
    obtain rfl:=ae c
    exact cu
  ·refine aH rfl f wz (ah (ah (ah (ah (ah (ah (ah (ah (aa (vB false) (aa (vB false) (ah (ah (ah (ah (ah (aa (vB false) (aa (vB false) (ah (ah (ah (ah (ah (ah ?_)))))))))))))))))))))))
   refine ah (ah (aa (vB false) (aa (vB false) (af ?_))))
   obtain rfl:=ae c
   exact cu
 ·rintro ⟨⟩ _ n m j k
  refine aO _ j k ?_
  obtain rfl:=ae e
  exact aC (Gw (.inr rfl) [(vB i)] _ [0] [aA 0] ⟨rfl,trivial⟩ (.cons (oh rfl rfl) (.nil)) (by kernel_rfl) ⟨(by kernel_rfl),trivial⟩ (by decide) (by kernel_rfl))
theorem pM {c:(List Rect)} {j:Rect->Option Bool} {r:Int} {gid:FuncId} {caps:List V} {Sin:List Box} (hfn:∀x0 r,j x0=some r->FnM Tryz.prog gid ([(.d (.agg (Rect.enc x0)))]++caps) Sin (vB r) (Sin.map some)) (hbF:aJ Tryz.prog gid=true) (hcapF:caps.flatMap frz=[]/\caps.map co0=caps) (hokF:okL Sin.length caps=true) (hsF:∀b∈Sin,b.ok Sin.length=true) (hmF:∀b∈Sin,b.mut=true) (h:iQ c j=some r) :
  FnM Tryz.prog 183 [(vL Rect.enc c),(.fn gid caps)] Sin (vI r) (Sin.map some):=by
 refine FnM.of_wH ⟨Tryz.prog,19,[],[]⟩ rfl Tryz.func183 rfl rfl (lb_ rfl) (by kernel_rfl) ?_
 unfold iQ at h
 refine ai (aa (vI 0) (af (ak (ai (aa (vL Rect.enc c) (bA yo rfl wz (aa (vI 0) (af ?_))))))))
 obtain ⟨v,m,h⟩:=bind_some h
 obtain ⟨o,m⟩:=aY m
 refine bN (λ(i:Unit)=>[]) (λ(i:Unit)=>(qW 0 Sin)) (λ(a:Nat)=>(λ(i:Unit)=>[(0,(vL Rect.enc c)),(1,(.fn gid caps)),(7,(vI (c.length:Int))),(8,(vI (a:Int)))])) (λk x s=>gq j k x s) v c () m rfl (yF _) ?_ ?_
 ·rintro ⟨a,n,i⟩ ⟨g,f⟩
  dsimp only at g f
  cases n with
  | nil =>
   obtain rfl:=ae g
   refine ai (aa (vB (decide ((a:Int)<(c.length:Int)))) (af ?_))
   refine ak (ax rfl (drop_nil f) (aU ?_))
   exact aW (i) rfl rfl (yF _)
  | cons w n =>
   obtain ⟨z,e,g⟩:=bind_some g
   refine ai (aa (vB (decide ((a:Int)<(c.length:Int)))) (af ?_))
   refine ak (ay rfl (bu f) (av ?_))
   unfold gq at e
   refine ak (aM (ai (aa (vI (a:Int)) (aa (vI (a:Int)) (af (ai (aa (.fn gid caps) (aa (vL Rect.enc c) (aa (vI (a:Int)) (dC DR rfl rfl (bI f) rfl wz (bE tV Fz rfl (.d (.agg (Rect.enc w))) rfl wz ?_)))))))))))
   obtain ⟨A,u,e⟩:=bind_some e
   refine Gn (hfn _ _ u) rfl hbF rfl rfl hcapF hokF hsF hmF rfl wz rfl (af ?_)
   rcases aj e with⟨l,e⟩|⟨l,e⟩
   ·refine ay rfl l (ai (aa (vI (a:Int)) (aa (vI (a:Int)) (af ?_))))
    obtain rfl:=ae e
    obtain rfl:=ae g
    obtain rfl:=ae h
    exact aC (QY hsF (.inr rfl) [(vI (a:Int))] ⟨rfl,trivial⟩ rfl rfl rfl)
   ·refine ax rfl l (av (au (dH (bz f o) wz rfl (aa (vI ((a+1:Nat):Int)) (af ?_)))))
    obtain rfl:=ae e
    exact aV (a+1,n,()) ⟨g,aX f⟩ (ls_ _) rfl (yF _)
 ·rintro i p B y q t
  subst p
  refine aO _ q t (ai (aa (vI (-1)) (af ?_)))
  obtain rfl:=ae h
  exact aC (QY hsF (.inr rfl) [(vI (-1))] ⟨rfl,trivial⟩ rfl rfl rfl)
theorem nV {e:(List Rect)} {f:Rect->Option Bool} {r:Bool} {gid:FuncId} {caps:List V} {Sin:List Box} (hfn:∀x0 r,f x0=some r->FnM Tryz.prog gid ([(.d (.agg (Rect.enc x0)))]++caps) Sin (vB r) (Sin.map some)) (hbF:aJ Tryz.prog gid=true) (hcapF:caps.flatMap frz=[]/\caps.map co0=caps) (hokF:okL Sin.length caps=true) (hsF:∀b∈Sin,b.ok Sin.length=true) (hmF:∀b∈Sin,b.mut=true) (a:gz e f=some r) :
  FnM Tryz.prog 143 [(vL Rect.enc e),(.fn gid caps)] Sin (vB r) (Sin.map some):=by
 refine FnM.of_wH ⟨Tryz.prog,9,[],[]⟩ rfl Tryz.func143 rfl rfl (lb_ rfl) (by kernel_rfl) ?_
 unfold gz at a
 refine ai (aa (vB false) (af (ai (aa (vL Rect.enc e) (aa (.fn gid caps) ?_)))))
 obtain ⟨c,g,a⟩:=bind_some a
 refine Gn (pM (gid:=gid) (caps:=caps) (Sin:=Sin) hfn hbF hcapF hokF hsF hmF g) rfl hb183 rfl rfl ⟨rfl,rfl⟩ (by simp [okL,okV,hokF]) hsF hmF rfl wz rfl (aa (vB (decide (c>=0))) (aa (vB (decide (c>=0))) (af ?_)))
 obtain rfl:=ae a
 exact aC (QY hsF (.inr rfl) [(vB (decide (c>=0)))] ⟨rfl,trivial⟩ rfl rfl rfl)
theorem Ev {a:Alert} {b:Post} {r:Bool} (c:tL a b=some r) :
  FnM Tryz.prog 94 [(.d (.agg (Alert.enc a))),(.d (.agg (Post.enc b)))] [] (vB r) []:=by
 refine FnM.of_wH ⟨Tryz.prog,9,[],[]⟩ rfl Tryz.func94 rfl rfl (lb_ rfl) (by kernel_rfl) ?_
 unfold tL at c
 refine ai (ib 0 (.inl rfl) (Alert.v a) rfl rfl wz (λh=>ib 0 (.inl rfl) (Post.v b) rfl rfl wz (λf=>aa (vB false) (af (ai (aK Gt rfl 7 rfl wz (aI 0 0 il ft JA Jv rfl rfl (vL Rect.enc a.Areas) rfl wz (aa (.fn 144 [(.ref f 0 0)]) ?_))))))))
 obtain ⟨e,g,c⟩:=bind_some c
 refine gm 0 [1] il ft (nV (gid:=144) (caps:=[.ref (aA 0) 0 0]) (Sin:=[(.cells 3 (Post.v b))]) (λ_ _ h_=>Cv h_) hb144 ⟨rfl,rfl⟩ (by kernel_rfl) (SV (by kernel_rfl)) (Qu (by kernel_rfl)) g) rfl hb143 rfl (by kernel_rfl) (by kernel_rfl) (by kernel_rfl) (by kernel_rfl) (by kernel_rfl) (by kernel_rfl) (by kernel_rfl) (by decide) (by kernel_rfl) wz (vB e) (by kernel_rfl) ([(h,some (.cells 9 (Alert.v a))),(f,some (.cells 3 (Post.v b)))]:Hp) (by kernel_rfl) (aa (vB e) (af ?_))
 obtain rfl:=ae c
 exact aC (aN [(vB e)] ⟨rfl,trivial⟩)
theorem EJ {b:Alert} {c:Post} {r:Bool×Int} (a:qo b c=some r) :
  FnM Tryz.prog 57 [(.d (.agg (Alert.enc b))),(.d (.agg (Post.enc c)))] [] (.tup [(vB r.1),(vI r.2)]) []:=by
 refine FnM.of_wH ⟨Tryz.prog,18,[],[]⟩ rfl Tryz.func57 rfl rfl (lb_ rfl) (by kernel_rfl) ?_
 unfold qo at a
 refine ai (ib 0 (.inl rfl) (Alert.v b) rfl rfl wz (λj=>ib 0 (.inl rfl) (Post.v c) rfl rfl wz (λk=>aa (vB false) (aa (vI 0) (af (ak (ai (aI 0 0 il ft zD Dp rfl rfl (.d (.agg (Alert.enc b))) rfl wz (eu (([b]:List Alert).map Alert.enc) Qc ez159 rfl rfl rfl rfl rfl wz (aI 0 1 il ft PT Ug rfl rfl (.d (.agg (Post.enc c))) rfl wz (eu (([c]:List Post).map Post.enc) TB ez160 rfl rfl rfl rfl rfl wz ?_)))))))))))
 obtain ⟨e,h,a⟩:=bind_some a
 refine aB (Cu h) rfl hb93 rfl rfl rfl rfl wz (aa (vI e) (af (ai (aa (vI e) (aa (vB (e != 0)) (af ?_))))))
 rcases aj a with⟨f,a⟩|⟨f,a⟩
 ·refine ay rfl f (ai (aa (vI e) (aa (vB false) (aa (vI e) (af ?_)))))
  obtain rfl:=ae a
  exact aC (aN [(vB false),(vI e)] ⟨rfl,⟨rfl,trivial⟩⟩)
 ·refine ax rfl f (av (ai (aI 0 0 il ft zD Dp rfl rfl (.d (.agg (Alert.enc b))) rfl wz (aI 0 1 il ft PT Ug rfl rfl (.d (.agg (Post.enc c))) rfl wz ?_))))
  obtain ⟨g,i,a⟩:=bind_some a
  refine aB (Ev i) rfl hb94 rfl rfl rfl rfl wz (aa (vB g) (aa (vI 0) (af ?_)))
  obtain rfl:=ae a
  exact aC (aN [(vB g),(vI 0)] ⟨rfl,⟨rfl,trivial⟩⟩)
theorem Kz {a:(List Int)} {r:Int} (g:BC a=some r) :
  FnM Tryz.prog 58 [(vL eI a)] [] (vI r) []:=by
 refine FnM.of_wH ⟨Tryz.prog,15,[],[]⟩ rfl Tryz.func58 rfl rfl (lb_ rfl) (by kernel_rfl) ?_
 unfold BC at g
 refine ai (aa (vI 0) (af (ak (ai (aa (vL eI a) (bA un162 rfl wz (aa (vI 0) (af ?_))))))))
 obtain ⟨q,j,g⟩:=bind_some g
 obtain ⟨m,j⟩:=aY j
 refine bN (λ(h:Unit)=>[]) (λ(h:Unit)=>[]) (λ(f:Nat)=>(λ(h:Unit)=>[(5,(vL eI a)),(6,(vI (a.length:Int))),(7,(vI (f:Int)))])) (λk x s=>zt k x s) q a () j rfl (aG rfl) ?_ ?_
 ·rintro ⟨f,l,h⟩ ⟨d,c⟩
  dsimp only at d c
  cases l with
  | nil =>
   obtain rfl:=ae d
   refine ai (aa (vB (decide ((f:Int)<(a.length:Int)))) (af ?_))
   refine ak (ax rfl (drop_nil c) (aU ?_))
   exact aW (h) rfl rfl (aG rfl)
  | cons b l =>
   obtain ⟨u,e,d⟩:=bind_some d
   refine ai (aa (vB (decide ((f:Int)<(a.length:Int)))) (af ?_))
   refine ak (ay rfl (bu c) (av ?_))
   unfold zt at e
   refine ak (aM (ai (dC es162 rfl rfl (bI c) rfl wz (bE sz32 ag32 rfl (vI b) rfl wz (aa (vI b) (af (ai (aa (vI b) (aa (vB (b != 0)) (af ?_))))))))))
   rcases aj e with⟨i,e⟩|⟨i,e⟩
   ·refine ay rfl i (ai (aa (vI b) (aa (vI b) (af ?_))))
    obtain rfl:=ae e
    obtain rfl:=ae d
    obtain rfl:=ae g
    exact aC (aN [(vI b)] ⟨rfl,trivial⟩)
   ·refine ax rfl i (av (au (dH (bz c m) wz rfl (aa (vI ((f+1:Nat):Int)) (af ?_)))))
    obtain rfl:=ae e
    exact aV (f+1,l,()) ⟨d,aX c⟩ (ls_ _) rfl (aG rfl)
 ·rintro h n v t o p
  subst n
  refine aO _ o p (ai (aa (vI 0) (af ?_)))
  obtain rfl:=ae g
  exact aC (aN [(vI 0)] ⟨rfl,trivial⟩)
theorem Jj {r:Bool} (b:sI  = some r) :
  FnM Tryz.prog 23 [] [] (vB r) []:=by
 refine FnM.of_wH ⟨Tryz.prog,75,[],[]⟩ rfl Tryz.func23 rfl rfl (lb_ rfl) (by kernel_rfl) ?_
 unfold sI at b
 refine ai (aa (vB false) (af (ai (aL (.d (.agg (Rect.enc (⟨0,0,2,2⟩:Rect)))) wz (by kernel_rfl) (aL (.d (.agg (Rect.enc (⟨1,1,2,2⟩:Rect)))) wz (by kernel_rfl) (eu (([(⟨0,0,2,2⟩:Rect),(⟨1,1,2,2⟩:Rect)]:List Rect).map Rect.enc) DR Sj rfl rfl rfl rfl rfl wz ?_))))))
 obtain ⟨c,t,b⟩:=bind_some b
 refine aB (IJ t) rfl hb53 rfl rfl rfl rfl wz (aa (.tup [(vI c.1),(vI c.2)]) (aa (vI c.1) (aa (vI c.2) (aa (vI c.1) (aa (vI c.2) (af (ai (aL (.agg [(vS (⟨#[97]⟩:ByteArray)),(vS (⟨#[98]⟩:ByteArray)),(vI 0),(vI 0),(vI 0),(vI 1),(vI 127),.nil,(vI 1),(vI 2),(vI 0),.nil,(vB false)]) wz (by kernel_rfl) (aL (.d (.agg (Window.enc (⟨0,86400000⟩:Window)))) wz (by kernel_rfl) ?_)))))))))
 obtain ⟨e,u,b⟩:=bind_some b
 refine aB (D5 u) rfl hb54 rfl rfl rfl rfl wz (aa (.tup [(vL Window.enc e.1),(vI e.2)]) (aa (vL Window.enc e.1) (aa (vI e.2) (aa (vL Window.enc e.1) (aa (vI e.2) (af (ai (aL (.d (.agg (Window.enc (⟨0,100⟩:Window)))) wz (by kernel_rfl) (aL (.agg [(vS (⟨#[97]⟩:ByteArray)),(vS (⟨#[]⟩:ByteArray)),(vI 0),(vI 100),.nil,(vI 10),(vI 0),(vI 0)]) wz (by kernel_rfl) ?_)))))))))
 obtain ⟨f,v,b⟩:=bind_some b
 refine aB (HZ v) rfl hb55 rfl rfl rfl rfl wz (aa (.tup [(vI f.1),(vI f.2)]) (aa (vI f.1) (aa (vI f.2) (aa (vI f.1) (aa (vI f.2) (af (ai (aL (.d (.agg (Beat.enc (⟨(⟨#[112]⟩:ByteArray),0,100⟩:Beat)))) wz (by kernel_rfl) (aL (.d (.agg (Beat.enc (⟨(⟨#[112]⟩:ByteArray),1000,1300⟩:Beat)))) wz (by kernel_rfl) (eu (([(⟨(⟨#[112]⟩:ByteArray),0,100⟩:Beat),(⟨(⟨#[112]⟩:ByteArray),1000,1300⟩:Beat)]:List Beat).map Beat.enc) K3 ez28 rfl rfl rfl rfl rfl wz ?_))))))))))
 obtain ⟨g,w,b⟩:=bind_some b
 refine aB (Gv w) rfl hb56 rfl rfl rfl rfl wz (aa (.tup [(vI g.1),(vI g.2)]) (aa (vI g.1) (aa (vI g.2) (aa (vI g.1) (aa (vI g.2) (af (aO (H0:=([]:Hp)) ([(1,(vI c.1)),(2,(vI c.2)),(3,(vL Window.enc e.1)),(4,(vI e.2)),(5,(vI f.1)),(6,(vI f.2)),(7,(vI g.1)),(8,(vI g.2))]:SL_) (by kernel_rfl) (AC (by kernel_rfl)) (ai (aL (.d (.agg (Rect.enc (⟨0,0,2,2⟩:Rect)))) wz (by kernel_rfl) (eu (([(⟨0,0,2,2⟩:Rect)]:List Rect).map Rect.enc) DR Sj rfl rfl rfl rfl rfl wz (aL (.agg [(vS (⟨#[97]⟩:ByteArray)),(vS (⟨#[115]⟩:ByteArray)),(vI 1),.nil,(vI 0),(vI 5),(vI 1),(vL Rect.enc ([(⟨0,0,2,2⟩:Rect)]:List Rect)),(vS (⟨#[120]⟩:ByteArray))]) wz (by kernel_rfl) (dA 0 (.inl rfl) z120 rfl wz (λx=>jw 0 il ft 0 zD rfl rfl [(vS (⟨#[97]⟩:ByteArray)),(vS (⟨#[115]⟩:ByteArray)),(vI 1),.nil,(vI 0),(vI 5),(vI 1),(vL Rect.enc ([(⟨0,0,2,2⟩:Rect)]:List Rect)),(vS (⟨#[120]⟩:ByteArray))] rfl wz (af (ai (aI 0 0 il ft zD Dp rfl rfl (.agg [(vS (⟨#[97]⟩:ByteArray)),(vS (⟨#[115]⟩:ByteArray)),(vI 1),.nil,(vI 0),(vI 5),(vI 1),(vL Rect.enc ([(⟨0,0,2,2⟩:Rect)]:List Rect)),(vS (⟨#[120]⟩:ByteArray))]) rfl wz (aL (.d (.agg (Post.enc (⟨(⟨#[112]⟩:ByteArray),1,1⟩:Post)))) wz (by kernel_rfl) ?_)))))))))))))))))
 obtain ⟨h,q,b⟩:=bind_some b
 refine aB (EJ q) rfl hb57 rfl rfl rfl rfl wz (aa (.tup [(vB h.1),(vI h.2)]) (aa (vB h.1) (aa (vI h.2) (aa (vB h.1) (aa (vI h.2) (af (ak ?_)))))))
 obtain ⟨n,a,b⟩:=bind_some b
 refine aR [(0,(vB n))] [(x,some (.cells 9 [(vS (⟨#[97]⟩:ByteArray)),(vS (⟨#[115]⟩:ByteArray)),(vI 1),.nil,(vI 0),(vI 5),(vI 1),(vL Rect.enc ([(⟨0,0,2,2⟩:Rect)]:List Rect)),(vS (⟨#[120]⟩:ByteArray))]))] ?_ ?_
 ·refine au (aa (vI c.2) (aa (vI e.2) (aa (vI f.2) (aa (vI g.2) (aa (vI h.2) (eu (([c.2,e.2,f.2,g.2,h.2]:List Int).map eI) es162 ez162 rfl rfl rfl rfl rfl wz ?_))))))
  obtain ⟨y,s,a⟩:=bind_some a
  refine aB (Kz s) rfl hb58 rfl rfl rfl rfl wz (aa (vB (y==0)) ?_)
  rcases aj a with⟨i,a⟩|⟨i,a⟩
  ·refine aH rfl i wz (aL (vI c.1) wa rfl (aL (vB (c.1==7)) wa rfl (aa (vB (c.1==7)) ?_)))
   rcases aj a with⟨j,a⟩|⟨j,a⟩
   ·refine aH rfl j wz (aL (vL Window.enc e.1) wa rfl (bA un108 rfl wa (aL (vB ((e.1.length:Int)==1)) wa rfl (aa (vB ((e.1.length:Int)==1)) ?_))))
    rcases aj a with⟨k,a⟩|⟨k,a⟩
    ·refine aH rfl k wz (aL (vI f.1) wa rfl (aL (vB (f.1==5)) wa rfl (aa (vB (f.1==5)) ?_)))
     rcases aj a with⟨l,a⟩|⟨l,a⟩
     ·refine aH rfl l wz (aL (vI g.1) wa rfl (aL (vB (g.1==500)) wa rfl (aa (vB (g.1==500)) ?_)))
      rcases aj a with⟨m,a⟩|⟨m,a⟩
      ·refine aH rfl m wz (aL (vB h.1) wa rfl (aa (vB h.1) (aa (vB h.1) (af ?_))))
       obtain rfl:=ae a
       exact cu
      ·refine aH rfl m wz (ah (aa (vB false) (aa (vB false) (af ?_))))
       obtain rfl:=ae a
       exact cu
     ·refine aH rfl l wz (ah (ah (aa (vB false) (aa (vB false) (ah (aa (vB false) (aa (vB false) (af ?_))))))))
      obtain rfl:=ae a
      exact cu
    ·refine aH rfl k wz (ah (ah (aa (vB false) (aa (vB false) (ah (ah (aa (vB false) (aa (vB false) (ah (aa (vB false) (aa (vB false) (af ?_))))))))))))
     obtain rfl:=ae a
     exact cu
   ·refine aH rfl j wz (ah (ah (ah (aa (vB false) (aa (vB false) (ah (ah (aa (vB false) (aa (vB false) (ah (ah (aa (vB false) (aa (vB false) (ah (aa (vB false) (aa (vB false) (af ?_)))))))))))))))))
    obtain rfl:=ae a
    exact cu
  ·refine aH rfl i wz (ah (ah (aa (vB false) (aa (vB false) (ah (ah (ah (aa (vB false) (aa (vB false) (ah (ah (aa (vB false) (aa (vB false) (ah (ah (aa (vB false) (aa (vB false) (ah (aa (vB false) (aa (vB false) (af ?_)))))))))))))))))))))
   obtain rfl:=ae a
   exact cu
 ·rintro ⟨⟩ _ A z o p
  refine aO _ o p ?_
  obtain rfl:=ae b
  exact aC (aN [(vB n)] ⟨rfl,trivial⟩)
theorem CE {q:(List Int)} {r:Bool} (a:qE q=some r) :
  FnM Tryz.prog 3 [(vL eI q)] [] (vB r) []:=by
 refine FnM.of_wH ⟨Tryz.prog,127,[],[]⟩ rfl Tryz.func3 rfl rfl (lb_ rfl) (by kernel_rfl) ?_
 unfold qE at a
 refine ai (aa (vB false) (af (ai (aa (vL eI q) (aL (.d (.agg (Stream.enc (⟨q,0⟩:Stream)))) wz (by kernel_rfl) (ib 0 (.inl rfl) [(vL eI q),(vI 0)] rfl rfl wz (λf=>aa (vL eI q) (aL (.d (.agg (Stream.enc (⟨q,0⟩:Stream)))) wz (by kernel_rfl) (ib 0 (.inl rfl) [(vL eI q),(vI 0)] rfl rfl wz (λg=>aa (.ref f 0 0) (aa (.ref g 0 0) (af (ai (aa (.ref f 0 0) ?_))))))))))))))
 obtain ⟨i,Ë,a⟩:=bind_some a
 refine gm 0 [0] il ft (rZ Ë) rfl hb4 rfl (by kernel_rfl) (by kernel_rfl) (by kernel_rfl) (by kernel_rfl) (by kernel_rfl) (by kernel_rfl) (by kernel_rfl) (by decide) (by kernel_rfl) wz (vL Log_.enc i.1) (by kernel_rfl) ([(f,some (.cells 2 [(vL eI i.2.L),(vI i.2.f_at)])),(g,some (.cells 2 [(vL eI q),(vI 0)]))]:Hp) (by kernel_rfl) (aa (.ref f 0 0) ?_)
 obtain ⟨w,Ô,a⟩:=bind_some a
 refine gm 0 [0] il ft (qQ Ô) rfl hb5 rfl (by kernel_rfl) (by kernel_rfl) (by kernel_rfl) (by kernel_rfl) (by kernel_rfl) (by kernel_rfl) (by kernel_rfl) (by decide) (by kernel_rfl) wz (vL Beat.enc w.1) (by kernel_rfl) ([(f,some (.cells 2 [(vL eI w.2.L),(vI w.2.f_at)])),(g,some (.cells 2 [(vL eI q),(vI 0)]))]:Hp) (by kernel_rfl) (aa (.ref f 0 0) ?_)
 obtain ⟨b,Z,a⟩:=bind_some a
 refine gm 0 [0] il ft (q8 Z) rfl hb6 rfl (by kernel_rfl) (by kernel_rfl) (by kernel_rfl) (by kernel_rfl) (by kernel_rfl) (by kernel_rfl) (by kernel_rfl) (by decide) (by kernel_rfl) wz (vL Play.enc b.1) (by kernel_rfl) ([(f,some (.cells 2 [(vL eI b.2.L),(vI b.2.f_at)])),(g,some (.cells 2 [(vL eI q),(vI 0)]))]:Hp) (by kernel_rfl) (aa (vL Log_.enc i.1) (aa (vL Beat.enc w.1) (aa (vL Play.enc b.1) (af (ai (aa (.ref g 0 0) ?_))))))
 obtain ⟨y,À,a⟩:=bind_some a
 refine gm 0 [1] il ft (rZ À) rfl hb4 rfl (by kernel_rfl) (by kernel_rfl) (by kernel_rfl) (by kernel_rfl) (by kernel_rfl) (by kernel_rfl) (by kernel_rfl) (by decide) (by kernel_rfl) wz (vL Log_.enc y.1) (by kernel_rfl) ([(f,some (.cells 2 [(vL eI b.2.L),(vI b.2.f_at)])),(g,some (.cells 2 [(vL eI y.2.L),(vI y.2.f_at)]))]:Hp) (by kernel_rfl) (aa (.ref g 0 0) ?_)
 obtain ⟨z,Á,a⟩:=bind_some a
 refine gm 0 [1] il ft (qQ Á) rfl hb5 rfl (by kernel_rfl) (by kernel_rfl) (by kernel_rfl) (by kernel_rfl) (by kernel_rfl) (by kernel_rfl) (by kernel_rfl) (by decide) (by kernel_rfl) wz (vL Beat.enc z.1) (by kernel_rfl) ([(f,some (.cells 2 [(vL eI b.2.L),(vI b.2.f_at)])),(g,some (.cells 2 [(vL eI z.2.L),(vI z.2.f_at)]))]:Hp) (by kernel_rfl) (aa (.ref g 0 0) ?_)
 obtain ⟨c,Â,a⟩:=bind_some a
 refine gm 0 [1] il ft (q8 Â) rfl hb6 rfl (by kernel_rfl) (by kernel_rfl) (by kernel_rfl) (by kernel_rfl) (by kernel_rfl) (by kernel_rfl) (by kernel_rfl) (by decide) (by kernel_rfl) wz (vL Play.enc c.1) (by kernel_rfl) ([(f,some (.cells 2 [(vL eI b.2.L),(vI b.2.f_at)])),(g,some (.cells 2 [(vL eI c.2.L),(vI c.2.f_at)]))]:Hp) (by kernel_rfl) (aa (vL Log_.enc y.1) (aa (vL Beat.enc z.1) (aa (vL Play.enc c.1) (af (ai (aa (vL Log_.enc i.1) ?_))))))
 obtain ⟨t,Ã,a⟩:=bind_some a
 refine DD [.int .i64 t.2] [] (DF Ã) rfl hb7 rfl (by kernel_rfl) (by kernel_rfl) (by kernel_rfl) (by kernel_rfl) (by kernel_rfl) rfl (by decide) (by kernel_rfl) wz ([(f,some (.cells 2 [(vL eI b.2.L),(vI b.2.f_at)])),(g,some (.cells 2 [(vL eI c.2.L),(vI c.2.f_at)]))]:Hp) (λ_=>by kernel_rfl) (λh=>aa (.tup [(gV h 6 t.1),(vI t.2)]) (aa (gV h 6 t.1) (aa (vI t.2) (aa (gV h 6 t.1) (aa (vI t.2) (af (aO (H0:=([(f,some (.cells 2 [(vL eI b.2.L),(vI b.2.f_at)])),(g,some (.cells 2 [(vL eI c.2.L),(vI c.2.f_at)])),(h,gB 6 Log_.enc t.1)]:Hp)) ([(5,(vL Log_.enc i.1)),(6,(vL Beat.enc w.1)),(7,(vL Play.enc b.1)),(8,(vL Log_.enc y.1)),(9,(vL Beat.enc z.1)),(10,(vL Play.enc c.1)),(11,(gV h 6 t.1))]:SL_) (by kernel_rfl) (AC (by kernel_rfl)) (ai (aa (gV h 6 t.1) ?_)))))))))
 obtain ⟨m,Ä,a⟩:=bind_some a
 obtain ⟨_,I,a⟩:=bind_some a
 replace I:=iY I
 refine jN 0 [] 2 0 il ft (xK Ä) rfl hb8 rfl rfl rfl (by kernel_rfl) rfl (.inl rfl) rfl (by kernel_rfl) (by kernel_rfl) (by kernel_rfl) (by kernel_rfl) rfl (by decide) (by kernel_rfl) jm (qY I) wz ([(f,some (.cells 2 [(vL eI b.2.L),(vI b.2.f_at)])),(g,some (.cells 2 [(vL eI c.2.L),(vI c.2.f_at)])),(h,gB 6 Log_.enc m)]:Hp) (by kernel_rfl) (bT (v':=(gV h 6 m)) 11 rfl (jg I.symm) (bT (v':=(gV h 6 m)) 49 rfl (jg I.symm) (af (ai (aa (vL Log_.enc i.1) (aa (vL Beat.enc w.1) ?_))))))
 obtain ⟨o,Å,a⟩:=bind_some a
 refine DD [dl eI o.2.1,.int .i64 o.2.2] [] (FU Å) rfl hb9 rfl (by kernel_rfl) (by kernel_rfl) (by kernel_rfl) (by kernel_rfl) (by kernel_rfl) rfl (by decide) (by kernel_rfl) wz ([(f,some (.cells 2 [(vL eI b.2.L),(vI b.2.f_at)])),(g,some (.cells 2 [(vL eI c.2.L),(vI c.2.f_at)])),(h,gB 6 Log_.enc m)]:Hp) (λ_=>by kernel_rfl) (λj=>aa (.tup [(gV j 4 o.1),(vL eI o.2.1),(vI o.2.2)]) (aa (gV j 4 o.1) (aa (vL eI o.2.1) (aa (vI o.2.2) (aa (gV j 4 o.1) (aa (vL eI o.2.1) (aa (vI o.2.2) (af (ai (aa (gV j 4 o.1) ?_))))))))))
 obtain ⟨p,Æ,a⟩:=bind_some a
 obtain ⟨_,B,a⟩:=bind_some a
 replace B:=iY B
 refine jN 0 [] 3 0 il ft (xk Æ) rfl hb10 rfl rfl rfl (by kernel_rfl) rfl (.inl rfl) rfl (by kernel_rfl) (by kernel_rfl) (by kernel_rfl) (by kernel_rfl) rfl (by decide) (by kernel_rfl) jm (qY B) wz ([(f,some (.cells 2 [(vL eI b.2.L),(vI b.2.f_at)])),(g,some (.cells 2 [(vL eI c.2.L),(vI c.2.f_at)])),(h,gB 6 Log_.enc m),(j,gB 4 Play.enc p)]:Hp) (by kernel_rfl) (bT (v':=(gV j 4 p)) 13 rfl (jg B.symm) (bT (v':=(gV j 4 p)) 55 rfl (jg B.symm) (bT (v':=(gV j 4 p)) 58 rfl (jg B.symm) (af (ai (aa (vL Play.enc b.1) ?_))))))
 obtain ⟨A,Ç,a⟩:=bind_some a
 refine DD [.int .i64 A.2] [] (Ey Ç) rfl hb11 rfl (by kernel_rfl) (by kernel_rfl) (by kernel_rfl) (by kernel_rfl) (by kernel_rfl) rfl (by decide) (by kernel_rfl) wz ([(f,some (.cells 2 [(vL eI b.2.L),(vI b.2.f_at)])),(g,some (.cells 2 [(vL eI c.2.L),(vI c.2.f_at)])),(h,gB 6 Log_.enc m),(j,gB 4 Play.enc p)]:Hp) (λ_=>by kernel_rfl) (λk=>aa (.tup [(gV k 5 A.1),(vI A.2)]) (aa (gV k 5 A.1) (aa (vI A.2) (aa (gV k 5 A.1) (aa (vI A.2) (af (ai (aa (gV k 5 A.1) ?_))))))))
 obtain ⟨u,È,a⟩:=bind_some a
 obtain ⟨_,C,a⟩:=bind_some a
 replace C:=iY C
 refine jN 0 [] 4 0 il ft (vY È) rfl hb12 rfl rfl rfl (by kernel_rfl) rfl (.inl rfl) rfl (by kernel_rfl) (by kernel_rfl) (by kernel_rfl) (by kernel_rfl) rfl (by decide) (by kernel_rfl) jm (qY C) wz ([(f,some (.cells 2 [(vL eI b.2.L),(vI b.2.f_at)])),(g,some (.cells 2 [(vL eI c.2.L),(vI c.2.f_at)])),(h,gB 6 Log_.enc m),(j,gB 4 Play.enc p),(k,gB 5 Tally.enc u)]:Hp) (by kernel_rfl) (bT (v':=(gV k 5 u)) 16 rfl (jg C.symm) (bT (v':=(gV k 5 u)) 63 rfl (jg C.symm) (bT (v':=(gV k 5 u)) 65 rfl (jg C.symm) (af (ai (aa (vL Play.enc b.1) (aa (vL Play.enc b.1) ?_)))))))
 obtain ⟨l,É,a⟩:=bind_some a
 refine DD [dl eI l.2.1,.int .i64 l.2.2] [] (Dt É) rfl hb13 rfl (by kernel_rfl) (by kernel_rfl) (by kernel_rfl) (by kernel_rfl) (by kernel_rfl) rfl (by decide) (by kernel_rfl) wz ([(f,some (.cells 2 [(vL eI b.2.L),(vI b.2.f_at)])),(g,some (.cells 2 [(vL eI c.2.L),(vI c.2.f_at)])),(h,gB 6 Log_.enc m),(j,gB 4 Play.enc p),(k,gB 5 Tally.enc u)]:Hp) (λ_=>by kernel_rfl) (λn=>aa (.tup [(gV n 2 l.1),(vL eI l.2.1),(vI l.2.2)]) (aa (gV n 2 l.1) (aa (vL eI l.2.1) (aa (vI l.2.2) (aa (gV n 2 l.1) (aa (vL eI l.2.1) (aa (vI l.2.2) (af (aO (H0:=([(f,some (.cells 2 [(vL eI b.2.L),(vI b.2.f_at)])),(g,some (.cells 2 [(vL eI c.2.L),(vI c.2.f_at)])),(h,gB 6 Log_.enc m),(j,gB 4 Play.enc p),(k,gB 5 Tally.enc u),(n,gB 2 Match.enc l.1)]:Hp)) ([(5,(vL Log_.enc i.1)),(6,(vL Beat.enc w.1)),(7,(vL Play.enc b.1)),(8,(vL Log_.enc y.1)),(9,(vL Beat.enc z.1)),(10,(vL Play.enc c.1)),(18,(gV n 2 l.1))]:SL_) (by kernel_rfl) (AC (by kernel_rfl)) (ai (aa (gV n 2 l.1) ?_)))))))))))
 obtain ⟨E,Ê,a⟩:=bind_some a
 obtain ⟨_,J,a⟩:=bind_some a
 replace J:=iY J
 refine jN 0 [] 5 0 il ft (wD Ê) rfl hb14 rfl rfl rfl (by kernel_rfl) rfl (.inl rfl) rfl (by kernel_rfl) (by kernel_rfl) (by kernel_rfl) (by kernel_rfl) rfl (by decide) (by kernel_rfl) jm (qY J) wz ([(f,some (.cells 2 [(vL eI b.2.L),(vI b.2.f_at)])),(g,some (.cells 2 [(vL eI c.2.L),(vI c.2.f_at)])),(h,gB 6 Log_.enc m),(j,gB 4 Play.enc p),(k,gB 5 Tally.enc u),(n,gB 2 Match.enc E)]:Hp) (by kernel_rfl) (bT (v':=(gV n 2 E)) 18 rfl (jg J.symm) (bT (v':=(gV n 2 E)) 74 rfl (jg J.symm) (af (ai (aa (vL Log_.enc i.1) ?_)))))
 obtain ⟨s,Ì,a⟩:=bind_some a
 refine aB (Ji Ì) rfl hb15 rfl rfl rfl rfl wz (aa (.tup [(vL eS s.1),(vI s.2)]) (aa (vL eS s.1) (aa (vI s.2) (aa (vL eS s.1) (aa (vI s.2) (af (ai (aa (vL eS s.1) ?_))))))))
 obtain ⟨K,Í,a⟩:=bind_some a
 refine aB (tT Í) rfl hb16 rfl rfl rfl rfl wz (aa (vL eS K) (af (ak (ai (aa (vL Log_.enc i.1) ?_)))))
 obtain ⟨v,Î,a⟩:=bind_some a
 refine aB (I8 Î) rfl hb17 rfl rfl rfl rfl wz (aa (.tup [(vS v.1),(vI v.2)]) (aa (vS v.1) (aa (vI v.2) (aa (vS v.1) (aa (vI v.2) (af (ak ?_)))))))
 obtain ⟨Û,F,a⟩:=bind_some a
 refine aR [(5,(vL Log_.enc i.1)),(6,(vL Beat.enc w.1)),(7,(vL Play.enc b.1)),(8,(vL Log_.enc y.1)),(9,(vL Beat.enc z.1)),(10,(vL Play.enc c.1)),(21,(vL eS s.1)),(23,(vL eS K)),(24,(vS v.1)),(94,(vB Û))] [(f,some (.cells 2 [(vL eI b.2.L),(vI b.2.f_at)])),(g,some (.cells 2 [(vL eI c.2.L),(vI c.2.f_at)])),(h,gB 6 Log_.enc m),(j,gB 4 Play.enc p),(k,gB 5 Tally.enc u),(n,gB 2 Match.enc E)] ?_ ?_
 ·refine au (aa (vI v.2) (aa (vB (v.2==0)) ?_))
  rcases aj F with⟨N,F⟩|⟨N,F⟩
  ·refine aH rfl N wz (aL (vL Log_.enc i.1) wa rfl (bA uK rfl wa (aL (vB (decide ((i.1.length:Int)>0))) wa rfl (aa (vB (decide ((i.1.length:Int)>0))) (af ?_)))))
   obtain rfl:=ae F
   exact cu
  ·refine aH rfl N wz (ah (ah (ah (aa (vB false) (af ?_)))))
   obtain rfl:=ae F
   exact cu
 ·rintro ⟨⟩ _ X U G H
  refine aO _ G H ?_
  obtain ⟨Þ,x,a⟩:=bind_some a
  refine aR [(5,(vL Log_.enc i.1)),(6,(vL Beat.enc w.1)),(7,(vL Play.enc b.1)),(8,(vL Log_.enc y.1)),(9,(vL Beat.enc z.1)),(10,(vL Play.enc c.1)),(21,(vL eS s.1)),(23,(vL eS K))] [(f,some (.cells 2 [(vL eI b.2.L),(vI b.2.f_at)])),(g,some (.cells 2 [(vL eI c.2.L),(vI c.2.f_at)])),(h,gB 6 Log_.enc m),(j,gB 4 Play.enc p),(k,gB 5 Tally.enc u),(n,gB 2 Match.enc E)] ?_ ?_
  ·rcases aj x with⟨O,x⟩|⟨O,x⟩
   ·refine ay rfl O (au (aa (vS v.1) (aa (vL Log_.enc i.1) (bA uK rfl wz (aa (vL Log_.enc i.1) ?_)))))
    obtain ⟨Ü,Ö,x⟩:=bind_some x
    refine dC sG rfl rfl Ö rfl wz (bE lw rQ rfl (.d (.agg (Log_.enc Ü))) rfl wz (aa (vL eS s.1) ?_))
    obtain ⟨M,Ï,x⟩:=bind_some x
    refine aB (FY Ï) rfl hb18 rfl rfl rfl rfl wz (aa (.tup [(vB M.1),(vI M.2)]) (aa (vB M.1) (aa (vI M.2) (af ?_))))
    obtain rfl:=ae x
    exact cu
   ·refine ax rfl O (av ?_)
    obtain rfl:=ae x
    exact cu
  ·rintro ⟨⟩ _ X U G H
   refine aO _ G H (ak ?_)
   obtain ⟨Y,e,a⟩:=bind_some a
   refine aR [(2,(vB Y))] [(f,some (.cells 2 [(vL eI b.2.L),(vI b.2.f_at)])),(g,some (.cells 2 [(vL eI c.2.L),(vI c.2.f_at)])),(h,gB 6 Log_.enc m),(j,gB 4 Play.enc p),(k,gB 5 Tally.enc u),(n,gB 2 Match.enc E)] ?_ ?_
   ·refine au (aa (vL Log_.enc i.1) (aa (vL Log_.enc y.1) ?_))
    obtain ⟨Ý,Ð,e⟩:=bind_some e
    refine aB (sF Ð) rfl hb19 rfl rfl rfl rfl wz ?_
    rcases aj e with⟨P,e⟩|⟨P,e⟩
    ·refine aH rfl P wz (aL (vL Beat.enc w.1) wa rfl (aL (vL Beat.enc z.1) wa rfl ?_))
     obtain ⟨Ø,Ñ,e⟩:=bind_some e
     refine aB (ru Ñ) rfl hb20 rfl rfl rfl rfl wa (aa (vB Ø) ?_)
     rcases aj e with⟨Q,e⟩|⟨Q,e⟩
     ·refine aH rfl Q wz (aL (vL Play.enc b.1) wa rfl (aL (vL Play.enc c.1) wa rfl ?_))
      obtain ⟨Ù,Ò,e⟩:=bind_some e
      refine aB (rA Ò) rfl hb21 rfl rfl rfl rfl wa (aa (vB Ù) ?_)
      rcases aj e with⟨R,e⟩|⟨R,e⟩
      ·refine aH rfl R wz (aL (vL eS s.1) wa rfl (aL (vL eS K) wa rfl ?_))
       obtain ⟨Ú,Ó,e⟩:=bind_some e
       refine aB (uA Ó) rfl hb22 rfl rfl rfl rfl wa (aa (vB Ú) ?_)
       rcases aj e with⟨T,e⟩|⟨T,e⟩
       ·refine aH rfl T wz ?_
        obtain ⟨W,Õ,e⟩:=bind_some e
        refine aB (Jj Õ) rfl hb23 rfl rfl rfl rfl wa (aa (vB W) (aa (vB W) (af ?_)))
        obtain rfl:=ae e
        exact cu
       ·refine aH rfl T wz (ah (aa (vB false) (aa (vB false) (af ?_))))
        obtain rfl:=ae e
        exact cu
      ·refine aH rfl R wz (ah (ah (ah (aa (vB false) (aa (vB false) (ah (aa (vB false) (aa (vB false) (af ?_)))))))))
       obtain rfl:=ae e
       exact cu
     ·refine aH rfl Q wz (ah (ah (ah (aa (vB false) (aa (vB false) (ah (ah (ah (aa (vB false) (aa (vB false) (ah (aa (vB false) (aa (vB false) (af ?_))))))))))))))
      obtain rfl:=ae e
      exact cu
    ·refine aH rfl P wz (ah (ah (ah (aa (vB false) (aa (vB false) (ah (ah (ah (aa (vB false) (aa (vB false) (ah (ah (ah (aa (vB false) (aa (vB false) (ah (aa (vB false) (aa (vB false) (af ?_)))))))))))))))))))
     obtain rfl:=ae e
     exact cu
   ·rintro ⟨⟩ _ X U G H
    refine aO _ G H ?_
    obtain rfl:=ae a
    exact aC (aN [(vB Y)] ⟨rfl,trivial⟩)
end Go.Proofs.YtnfojnnfidnikaeGreatDoor.Law

