/-
 The machine computes these plain functions (written by a program of ours).
-/
import Derived.Test.YtadpbmfnnlkdlabGreatDoorFacts
import Derived.Test.YtadpbmfnnlkdlabGreatDoorDefs
import Derived.Test.YtadpbmfnnlkdlabGreatDoorPf4
open Go Go.Eng Go.Proofs
namespace Go.Proofs.YtadpbmfnnlkdlabGreatDoor.Law
set_option maxRecDepth 100000
set_option linter.unusedVariables false
set_option maxHeartbeats 1000000
theorem tC {b:Rect} {r:Int} (a:nN b=some r) :
  FnM Tryz.prog 93 [(.d (.agg (Rect.enc b)))] [] (vI r) []:=by
 refine FnM.of_wH ⟨Tryz.prog,25,[],[]⟩ rfl Tryz.func93 rfl rfl (lb_ rfl) (by kernel_rfl) ?_
 unfold nN at a
 refine aj (dQ 0 (.inl rfl) (Rect.v b) rfl rfl wz (λl=>aa (vI 0) (ah (au (au ?_)))))
 obtain ⟨x,e,a⟩:=bind_some a
 refine aP [(1,(.ref l 0 0)),(10,(vB x))] [(l,some (.cells 4 (Rect.v b)))] ?_ ?_
 ·refine av (aH Dv rfl 0 rfl wz (ay 0 0 il ft sz3 ag3 rfl rfl (vI b.X) rfl wz ?_))
  obtain ⟨z,p,e⟩:=bind_some e
  refine aF (bH p) rfl tT rfl rfl rfl rfl wz ?_
  rcases ak e with⟨i,e⟩|⟨i,e⟩
  ·refine aD rfl i wz (ae (ae (ae (aa (vB true) (ah ?_)))))
   obtain rfl:=af e
   exact cu
  ·refine aD rfl i wz (aH ze rfl 1 rfl wa (ay 0 0 il ft sz3 ag3 rfl rfl (vI b.Y) rfl wa ?_))
   obtain ⟨t,q,e⟩:=bind_some e
   refine aF (bH q) rfl tT rfl rfl rfl rfl wa (aa (vB t) (ah ?_))
   obtain rfl:=af e
   exact cu
 ·rintro ⟨⟩ _ u m j k
  refine aN _ j k ?_
  rcases ak a with⟨f,a⟩|⟨f,a⟩
  ·refine aB rfl f (aj (aa (vI 1) (ah ?_)))
   obtain rfl:=af a
   exact aC (aL [(vI 1)] ⟨rfl,trivial⟩)
  ·refine aA rfl f (ax (au (au ?_)))
   obtain ⟨w,c,a⟩:=bind_some a
   refine aP [(24,(vB w))] [(l,some (.cells 4 (Rect.v b)))] ?_ ?_
   ·refine av (aH JY rfl 2 rfl wz (ay 0 0 il ft sz3 ag3 rfl rfl (vI b.W) rfl wz (aH Dv rfl 0 rfl wz (ay 0 0 il ft sz3 ag3 rfl rfl (vI b.X) rfl wz (aa (vI (w64 (100000-b.X))) ?_)))))
    obtain ⟨y,n,c⟩:=bind_some c
    refine aF (bH n) rfl tT rfl rfl rfl rfl wz ?_
    rcases ak c with⟨g,c⟩|⟨g,c⟩
    ·refine aD rfl g wz (ae (ae (ae (ae (ae (ae (aa (vB true) (ah ?_))))))))
     obtain rfl:=af c
     exact cu
    ·refine aD rfl g wz (aH Hr rfl 3 rfl wa (ay 0 0 il ft sz3 ag3 rfl rfl (vI b.H) rfl wa (aH ze rfl 1 rfl wa (ay 0 0 il ft sz3 ag3 rfl rfl (vI b.Y) rfl wa (aK (vI (w64 (100000-b.Y))) wa rfl ?_)))))
     obtain ⟨s,o,c⟩:=bind_some c
     refine aF (bH o) rfl tT rfl rfl rfl rfl wa (aa (vB s) (ah ?_))
     obtain rfl:=af c
     exact cu
   ·rintro ⟨⟩ _ u m j k
    refine aN _ j k ?_
    rcases ak a with⟨h,a⟩|⟨h,a⟩
    ·refine aB rfl h (aj (aa (vI 1) (ah ?_)))
     obtain rfl:=af a
     exact aC (aL [(vI 1)] ⟨rfl,trivial⟩)
    ·refine aA rfl h (ax (aj (aa (vI 0) (ah ?_))))
     obtain rfl:=af a
     exact aC (aL [(vI 0)] ⟨rfl,trivial⟩)
theorem zf {a:(List Rect)} {r:Int} (b:mD a=some r) :
  FnM Tryz.prog 64 [(vL Rect.enc a)] [] (vI r) []:=by
 refine FnM.of_wH ⟨Tryz.prog,21,[],[]⟩ rfl Tryz.func64 rfl rfl (lb_ rfl) (by kernel_rfl) ?_
 unfold mD at b
 refine aj (aa (vI 0) (ah (au (aj (aa (vL Rect.enc a) (bS DL rfl wz (aa (vB (decide ((a.length:Int)>2000))) (ah ?_))))))))
 rcases ak b with⟨l,b⟩|⟨l,b⟩
 ·refine aB rfl l (aj (aa (vI 2) (ah ?_)))
  obtain rfl:=af b
  exact aC (aL [(vI 2)] ⟨rfl,trivial⟩)
 ·refine aA rfl l (ax (au (aj (aa (vL Rect.enc a) (bS DL rfl wz (aa (vI 0) (ah ?_)))))))
  obtain ⟨y,m,b⟩:=bind_some b
  obtain ⟨p,m⟩:=aW m
  refine cz (λ(i:Unit)=>[]) (λ(i:Unit)=>[]) (λ(g:Nat)=>(λ(i:Unit)=>[(9,(vL Rect.enc a)),(10,(vI (a.length:Int))),(11,(vI (g:Int)))])) (λk x s=>nH k x s) y a () m rfl (aI rfl) ?_ ?_
  ·rintro ⟨g,n,i⟩ ⟨f,e⟩
   dsimp only at f e
   cases n with
   | nil =>
    obtain rfl:=af f
    refine aj (aa (vB (decide ((g:Int)<(a.length:Int)))) (ah ?_))
    refine au (aA rfl (drop_nil e) (aS ?_))
    exact aV (i) rfl rfl (aI rfl)
   | cons o n =>
    obtain ⟨A,c,f⟩:=bind_some f
    refine aj (aa (vB (decide ((g:Int)<(a.length:Int)))) (ah ?_))
    refine au (aB rfl (bv e) (ax ?_))
    unfold nH at c
    refine au (aM (aj (dR Jg rfl rfl (bJ e) rfl wz (bN zt LP rfl (.d (.agg (Rect.enc o))) rfl wz (bZ 0 (.inl rfl) z84 rfl wz (λB=>dY 0 il ft 0 zt rfl rfl (Rect.v o) rfl wz (ah (aj (ay 0 0 il ft zt LP rfl rfl (.d (.agg (Rect.enc o))) rfl wz ?_)))))))))
    obtain ⟨h,w,c⟩:=bind_some c
    refine aF (tC w) rfl hb93 rfl rfl rfl rfl wz (aa (vI h) (ah (aj (aa (vI h) (aa (vB (h != 0)) (ah ?_))))))
    rcases ak c with⟨j,c⟩|⟨j,c⟩
    ·refine aB rfl j (aj (aa (vI h) (aa (vI h) (ah ?_))))
     obtain rfl:=af c
     obtain rfl:=af f
     obtain rfl:=af b
     exact aC (aL [(vI h)] ⟨rfl,trivial⟩)
    ·refine aA rfl j (ax (av (dX (bD e p) wz rfl (aa (vI ((g+1:Nat):Int)) (ah ?_)))))
     obtain rfl:=af c
     exact aU (g+1,n,()) ⟨f,aQ e⟩ (ls_ _) rfl (aI rfl)
  ·rintro i q C z t u
   subst q
   refine aN _ t u (aj (aa (vI 0) (ah ?_)))
   obtain rfl:=af b
   exact aC (aL [(vI 0)] ⟨rfl,trivial⟩)
theorem oQ {b:Int} {r:Bool} (a:iG b=some r) :
  FnM Tryz.prog 136 [.nil,(vI b)] [] (kV r (aG 0) 4 ([]:List Rect)) (kO r 4):=by
 refine FnM.of_wH ⟨Tryz.prog,27,[],[]⟩ rfl Tryz.func136 rfl rfl (lb_ rfl) (by kernel_rfl) ?_
 unfold iG at a
 refine aj (aa .nil (ah (au (aj (aa (vI b) (aa (vB (decide (b<0))) (ah ?_)))))))
 rcases ak a with⟨c,a⟩|⟨c,a⟩
 ·refine aB rfl c (av ?_)
  cases a
 ·refine aA rfl c (ax (au (aj (aa (vI b) (aa .nil (Jk Mi rfl wz (aa .nil (GN DL rfl wz (aa (vI (w64 (0-0))) (aa (vI (w64 (b-(w64 (0-0))))) (aa (vI (w64 (b-(w64 (0-0))))) (ah (aj (aa (vI (w64 (b-(w64 (0-0))))) (aa (vB (decide ((w64 (b-(w64 (0-0))))>0))) (ah ?_))))))))))))))))
  rcases ak a with⟨d,a⟩|⟨d,a⟩
  ·refine aB rfl d (av (aa .nil (aa .nil (Jk Mi rfl wz (aK .nil wz (by kernel_rfl) (aa (vI (w64 (b-(w64 (0-0))))) ?_))))))
   obtain ⟨_,f,a⟩:=bind_some a
   refine QC (enc:=Rect.enc) 0 (.inl rfl) Mi (by kernel_rfl) zt z84 rfl (by decide) by84 rfl rfl f wz (λe=>aa .nil (GN DL rfl wz (PD (m:=0) DL zt rfl rfl rfl (Nat.zero_le _) wz (aa (.vs e 4 0 0) (ah (aj (aa (.vs e 4 0 0) (aa (.vs e 4 0 0) (ah ?_)))))))))
   obtain rfl:=af a
   exact aC (finK (.inr rfl) 0 rfl rfl)
  ·refine aA rfl d (ax (aj (aa .nil (aa .nil (ah ?_)))))
   obtain rfl:=af a
   exact aC (finK0 (.inr rfl) rfl)
theorem oP {a:(List (List Rect))} {r:(List Rect)} (g:fw a=some r) :
  FnM Tryz.prog 94 [(vL (eL Rect.enc) a)] [] (vL Rect.enc r) []:=by
 refine FnM.of_wH ⟨Tryz.prog,36,[],[]⟩ rfl Tryz.func94 rfl rfl (lb_ rfl) (by kernel_rfl) ?_
 unfold fw at g
 refine aj (aa .nil (ah (aj (aa (vI 0) (ah (au (aj (aa (vL (eL Rect.enc) a) (bS un198 rfl wz (aa (vI 0) (ah ?_)))))))))))
 obtain ⟨R,z,g⟩:=bind_some g
 obtain ⟨O,z⟩:=aW z
 refine cz (λ(b:Int)=>[(0,(vL (eL Rect.enc) a)),(3,(vI b))]) (λ(b:Int)=>[]) (λ(h:Nat)=>(λ(b:Int)=>[(0,(vL (eL Rect.enc) a)),(3,(vI b)),(9,(vL (eL Rect.enc) a)),(10,(vI (a.length:Int))),(11,(vI (h:Int)))])) (λk x s=>gJ k x s) R a 0 z rfl (aI rfl) ?_ ?_
 ·rintro ⟨h,E,b⟩ ⟨o,l⟩
  dsimp only at o l
  cases E with
  | nil =>
   obtain rfl:=af o
   refine aj (aa (vB (decide ((h:Int)<(a.length:Int)))) (ah ?_))
   refine au (aA rfl (drop_nil l) (aS ?_))
   exact aV (b) rfl rfl (aI rfl)
  | cons e E =>
   obtain ⟨L,w,o⟩:=bind_some o
   refine aj (aa (vB (decide ((h:Int)<(a.length:Int)))) (ah ?_))
   refine au (aB rfl (bv l) (ax ?_))
   unfold gJ at w
   refine au (aM (aj (dR QF rfl rfl (bJ l) rfl wz (bN N8 Oy rfl (vL Rect.enc e) rfl wz (aa (vL Rect.enc e) (ah (aj (aa (vI b) (aa (vL Rect.enc e) (bS DL rfl wz (aa (vI (w64 (b+(e.length:Int)))) (aa (vI (w64 (b+(e.length:Int)))) (ah (aj (aa (vI (w64 (b+(e.length:Int)))) (aa (vB (decide ((w64 (b+(e.length:Int)))<0))) (ah ?_)))))))))))))))))
   obtain ⟨U,q,w⟩:=bind_some w
   refine aP [(0,(vL (eL Rect.enc) a)),(3,(vI (w64 (b+(e.length:Int))))),(9,(vL (eL Rect.enc) a)),(10,(vI (a.length:Int))),(11,(vI (h:Int)))] [] ?_ ?_
   ·rcases ak q with⟨y,q⟩|⟨y,q⟩
    ·refine aB rfl y (av ?_)
     cases q
    ·refine aA rfl y (ax ?_)
     obtain rfl:=af q
     exact cu
   ·rintro ⟨⟩ _ K G t u
    refine aN _ t u (av (dX (bD l O) wz rfl (aa (vI ((h+1:Nat):Int)) (ah ?_))))
    obtain rfl:=af w
    exact aU (h+1,E,(w64 (b+(e.length:Int)))) ⟨o,aQ l⟩ (ls_ _) rfl (aI rfl)
 ·rintro b B K G t u
  subst B
  refine aN _ t u (aj (aa (vI b) ?_))
  obtain ⟨f,P,g⟩:=bind_some g
  refine Nf (enc:=Rect.enc) (oQ P) rfl hb136 (by kernel_rfl) rfl (by kernel_rfl) wz (λI=>aa (kV f I 4 ([]:List Rect)) (ah (au (aj (aa (vL (eL Rect.enc) a) (bS un198 rfl wz (aa (vI 0) (ah ?_))))))))
  obtain ⟨T,A,g⟩:=bind_some g
  obtain ⟨M,A⟩:=aW A
  refine gH (σ:=(List Rect)) (N:=Nm) (λp=>(λ(c:List Rect) (d:Nm)=>([(6,(kV f d 4 c))]:SL_)) p.1 p.2) (λp=>(λ(c:List Rect) (d:Nm)=>([(d,kB f 4 Rect.enc c)]:Hp)) p.1 p.2) (λ(m:Nat)=>(λp=>(λ(c:List Rect) (d:Nm)=>([(6,(kV f d 4 c)),(25,(vL (eL Rect.enc) a)),(26,(vI (a.length:Int))),(27,(vI (m:Int)))]:SL_)) p.1 p.2)) (λk x s=>gL k x s) T a (([]:List Rect),I) A rfl (aI rfl) ?_ ?_
  ·rintro ⟨m,C,c,d⟩ ⟨n,j⟩
   dsimp only at n j
   cases C with
   | nil =>
    obtain rfl:=af n
    refine aj (aa (vB (decide ((m:Int)<(a.length:Int)))) (ah ?_))
    refine au (aA rfl (drop_nil j) (aS ?_))
    exact aV (c,d) rfl rfl (aI rfl)
   | cons F C =>
    obtain ⟨L,v,n⟩:=bind_some n
    refine aj (aa (vB (decide ((m:Int)<(a.length:Int)))) (ah ?_))
    refine au (aB rfl (bv j) (ax ?_))
    unfold gL at v
    refine au (aM (aj (dR QF rfl rfl (bJ j) rfl wz (bN N8 Oy rfl (vL Rect.enc F) rfl wz (aa (vL Rect.enc F) (ah (av (aa (kV f d 4 c) (aa (vL Rect.enc F) ?_)))))))))
    obtain ⟨H,Q,v⟩:=bind_some v
    refine MF 0 il ft (i:=0) Mi Mi zt z84 rfl (by decide) by84 (by decide) (λ_=>rfl) rfl rfl rfl Q wz (λJ=>aa (kV f J 4 H) (ah (av (dX (bD j M) wz rfl (aa (vI ((m+1:Nat):Int)) (ah ?_))))))
    obtain rfl:=af v
    exact aU (m+1,C,H,J) ⟨n,aQ j⟩ (ls_ _) rfl (aI rfl)
  ·rintro ⟨c,d⟩ B K G t u
   subst B
   refine aN _ t u (aj (aa (kV f d 4 c) (aa (kV f d 4 c) (ah (K9 0 rfl (DD 2 0 rfl rfl (DD 6 0 rfl rfl (DD 35 0 rfl rfl ?_))))))))
   obtain rfl:=af g
   exact aC (aL [(vL Rect.enc c)] ⟨rfl,trivial⟩)
theorem Dw {a:Run} {b:Run} {r:Int} (c:vY a b=some r) :
  FnM Tryz.prog 138 [(.d (.agg (Run.enc a))),(.d (.agg (Run.enc b)))] [] (vI r) []:=by
 refine FnM.of_wH ⟨Tryz.prog,10,[],[]⟩ rfl Tryz.func138 rfl rfl (lb_ rfl) (by kernel_rfl) ?_
 unfold vY at c
 refine aj (dQ 0 (.inl rfl) [(vI a.f_from),(vI a.f_to)] rfl rfl wz (λe=>dQ 0 (.inl rfl) [(vI b.f_from),(vI b.f_to)] rfl rfl wz (λf=>aa (vI 0) (ah (aj (aH mE rfl 0 rfl wz (ay 0 0 il ft sz3 ag3 rfl rfl (vI a.f_from) rfl wz (aH mE rfl 0 rfl wz (ay 0 1 il ft sz3 ag3 rfl rfl (vI b.f_from) rfl wz (aa (vI (w64 (a.f_from-b.f_from))) (aa (vI (w64 (a.f_from-b.f_from))) (ah ?_))))))))))))
 obtain rfl:=af c
 exact aC (aL [(vI (w64 (a.f_from-b.f_from)))] ⟨rfl,trivial⟩)
theorem Bw {k:Int} {r:Int} (a:sG k=some r) :
  FnM Tryz.prog 121 [(.d (.int .u64 k))] [] (vI r) []:=by
 refine FnM.of_wH ⟨Tryz.prog,25,[],[]⟩ rfl Tryz.func121 rfl rfl (lb_ rfl) (by kernel_rfl) ?_
 unfold sG at a
 refine aj (aa (vI 0) (ah (au (aj (aa (.d (.int .u64 k)) (aa (vB (decide (k>=4294967296))) (ah ?_)))))))
 obtain ⟨b,f,a⟩:=bind_some a
 refine aP [(0,(.d (.int .u64 b.1))),(2,(vI b.2))] [] ?_ ?_
 ·rcases ak f with⟨n,f⟩|⟨n,f⟩
  ·refine aB rfl n (aj (aa (.d (.int .u64 k)) ?_))
   obtain ⟨y,v,f⟩:=bind_some f
   refine Lj rfl rfl v wz (aa (.d (.int .u64 y)) (ah (av (aa (vI 32) (ah ?_)))))
   obtain rfl:=af f
   exact cu
  ·refine aA rfl n (ax ?_)
   obtain rfl:=af f
   exact cu
 ·rintro ⟨⟩ _ q p i j
  refine aN _ i j (au (aj (aa (.d (.int .u64 b.1)) (aa (vB (decide (b.1>=65536))) (ah ?_)))))
  obtain ⟨c,g,a⟩:=bind_some a
  refine aP [(0,(.d (.int .u64 c.1))),(2,(vI c.2))] [] ?_ ?_
  ·rcases ak g with⟨o,g⟩|⟨o,g⟩
   ·refine aB rfl o (aj (aa (.d (.int .u64 b.1)) ?_))
    obtain ⟨w,t,g⟩:=bind_some g
    refine Lj rfl rfl t wz (aa (.d (.int .u64 w)) (ah (av (aa (vI b.2) (aa (vI (w64 (b.2+16))) (aa (vI (w64 (b.2+16))) (ah ?_)))))))
    obtain rfl:=af g
    exact cu
   ·refine aA rfl o (ax ?_)
    obtain rfl:=af g
    exact cu
  ·rintro ⟨⟩ _ q p i j
   refine aN _ i j (au (aj (aa (.d (.int .u64 c.1)) (aa (vB (decide (c.1>=256))) (ah ?_)))))
   obtain ⟨h,e,a⟩:=bind_some a
   refine aP [(0,(.d (.int .u64 h.1))),(2,(vI h.2))] [] ?_ ?_
   ·rcases ak e with⟨m,e⟩|⟨m,e⟩
    ·refine aB rfl m (aj (aa (.d (.int .u64 c.1)) ?_))
     obtain ⟨x,u,e⟩:=bind_some e
     refine Lj rfl rfl u wz (aa (.d (.int .u64 x)) (ah (av (aa (vI c.2) (aa (vI (w64 (c.2+8))) (aa (vI (w64 (c.2+8))) (ah ?_)))))))
     obtain rfl:=af e
     exact cu
    ·refine aA rfl m (ax ?_)
     obtain rfl:=af e
     exact cu
   ·rintro ⟨⟩ _ q p i j
    refine aN _ i j (aj (aa (vI h.2) (aa (.d (.int .u64 h.1)) (oO CO un5 rfl wz ?_))))
    obtain ⟨l,s,a⟩:=bind_some a
    refine lK un9 rfl rfl s wz (oO un5 un3 rfl wz (aa (vI (w64 (h.2+(w64 (l.toNat:Int))))) (aa (vI (w64 (h.2+(w64 (l.toNat:Int))))) (ah ?_))))
    obtain rfl:=af a
    exact aC (aL [(vI (w64 (h.2+(w64 (l.toNat:Int)))))] ⟨rfl,trivial⟩)
theorem Dj {b:Int} {r:Int} (a:rf b=some r) :
  FnM Tryz.prog 80 [(.d (.int .u64 b))] [] (vI r) []:=by
 refine FnM.of_wH ⟨Tryz.prog,8,[],[]⟩ rfl Tryz.func80 rfl rfl (lb_ rfl) (by kernel_rfl) ?_
 unfold rf at a
 refine aj (aa (vI 0) (ah (au (aA rfl rfl (ax (aj (aa (.d (.int .u64 b)) ?_)))))))
 obtain ⟨c,e,a⟩:=bind_some a
 refine aF (Bw e) rfl hb121 rfl rfl rfl rfl wz (aa (vI c) (ah ?_))
 obtain rfl:=af a
 exact aC (aL [(vI c)] ⟨rfl,trivial⟩)
theorem kR {k:(List Run)} {f:Int} {h:Int} {r:(List Run)} (p:cB k f h=some r) :
  FnM Tryz.prog 183 [(dV (aG 0) 2 k),(vI f),(vI h),(.fn 138 [])] (([]:List Box)++gI 2 Run.enc k) (.tup []) (([]:List Box).map some++gT k (gB 2 Run.enc r)):=by
 refine FnM.of_wHv ⟨Tryz.prog,53,[],[]⟩ rfl Tryz.func183 rfl rfl (lb_ rfl) (by kernel_rfl) ?_
 unfold cB at p
 refine aj (aa (vI f) (aa (vI (w64 (f+1))) (aa (vI (w64 (f+1))) (ah ?_))))
 obtain ⟨Z,y,p⟩:=bind_some p
 obtain ⟨Y,y⟩:=dJ y
 refine gq (λ(c:(List Run)×Int)=>[]) (λ(c:(List Run)×Int)=>[((aG 0),gB 2 Run.enc c.1)]) (λ(u:Nat)=>(λ(c:(List Run)×Int)=>[(0,(dV (aG 0) 2 c.1)),(1,(vI f)),(2,(vI h)),(3,(.fn 138 [])),(8,(vI c.2))])) (λs=>bT h f s) Z Y (k,(w64 (f+1))) y rfl (aI rfl) ?_ ?_
 ·rintro ⟨u,c⟩ l
  dsimp only at l
  cases u with
  | zero=>cases l
  | succ u =>
   obtain ⟨L,j,l⟩:=bind_some l
   unfold bT at j
   refine au (aj (aa (vI c.2) (aa (vI h) (aa (vB (decide (c.2<h))) (ah ?_)))))
   rcases ak j with⟨v,j⟩|⟨v,j⟩
   ·refine aB rfl v (ax (au (aM (aj (aa (vI c.2) (aa (vI c.2) (ah ?_)))))))
    obtain ⟨À,z,j⟩:=bind_some j
    obtain ⟨X,z⟩:=dJ z
    refine gq (λ(a:(List Run)×Int)=>[(0,(dV (aG 0) 2 a.1)),(1,(vI f)),(2,(vI h)),(3,(.fn 138 [])),(8,(vI c.2))]) (λ(a:(List Run)×Int)=>[((aG 0),gB 2 Run.enc a.1)]) (λ(t:Nat)=>(λ(a:(List Run)×Int)=>[(0,(dV (aG 0) 2 a.1)),(1,(vI f)),(2,(vI h)),(3,(.fn 138 [])),(8,(vI c.2)),(9,(vI a.2))])) (λs=>dA f s) À X (c.1,c.2) z rfl (aI rfl) ?_ ?_
    ·rintro ⟨t,a⟩ m
     dsimp only at m
     cases t with
     | zero=>cases m
     | succ t =>
      obtain ⟨L,b,m⟩:=bind_some m
      unfold dA at b
      refine au (au ?_)
      obtain ⟨Á,e,b⟩:=bind_some b
      refine aP [(0,(dV (aG 0) 2 a.1)),(1,(vI f)),(2,(vI h)),(3,(.fn 138 [])),(8,(vI c.2)),(9,(vI a.2)),(34,(vB Á))] [((aG 0),gB 2 Run.enc a.1)] ?_ ?_
      ·refine bI (aa (vI a.2) (aa (vI f) (aa (vB (decide (a.2>f))) ?_)))
       rcases ak e with⟨w,e⟩|⟨w,e⟩
       ·refine aD rfl w wz (aK (.fn 138 []) wa rfl (aK (dV (aG 0) 2 a.1) wa rfl (aK (vI a.2) wa rfl ?_)))
        obtain ⟨_,C,e⟩:=bind_some e
        refine qC mP rfl rfl (jM C) (gK C) wa ?_
        obtain ⟨M,P,e⟩:=bind_some e
        refine nI 8 0 (.inr (by kernel_rfl)) (λ_ _ ag=>trivial) o9 yZ rfl rfl P (.d (.agg (Run.enc M))) rfl wa (aK (dV (aG 0) 2 a.1) wa rfl (aK (vI a.2) wa rfl (aK (vI (w64 (a.2-1))) wa rfl ?_)))
        obtain ⟨_,E,e⟩:=bind_some e
        refine qC mP rfl rfl (jM E) (gK E) wa ?_
        obtain ⟨N,Q,e⟩:=bind_some e
        refine nI 13 0 (.inr (by kernel_rfl)) (λ_ _ ag=>⟨.inl ⟨rfl,rfl⟩,trivial⟩) o9 yZ rfl rfl Q (.d (.agg (Run.enc N))) rfl wa ?_
        obtain ⟨J,O,e⟩:=bind_some e
        refine aF (Dw O) rfl hb138 rfl rfl rfl rfl wa (aK (vB (decide (J<0))) wa rfl (aa (vB (decide (J<0))) (ah ?_)))
        obtain rfl:=af e
        exact cu
       ·refine aD rfl w wz (ae (ae (ae (ae (ae (ae (ae (ae (ae (ae (ae (ae (aa (vB false) (ah ?_))))))))))))))
        obtain rfl:=af e
        exact cu
      ·rintro ⟨⟩ _ K B q n
       refine aN _ q n ?_
       rcases ak b with⟨x,b⟩|⟨x,b⟩
       ·refine aB rfl x (ax (au (aM (bI (aa (dV (aG 0) 2 a.1) (aa (vI a.2) (aa (dV (aG 0) 2 a.1) (aa (vI a.2) (aa (vI (w64 (a.2-1))) (aa (dV (aG 0) 2 a.1) (aa (vI a.2) (aa (vI (w64 (a.2-1))) ?_))))))))))))
        obtain ⟨_,F,b⟩:=bind_some b
        refine qC mP rfl rfl (jM F) (gK F) wz ?_
        obtain ⟨g,R,b⟩:=bind_some b
        refine nI 9 0 (.inr (by kernel_rfl)) (λ_ _ ag=>trivial) o9 yZ rfl rfl R (.d (.agg (Run.enc g))) rfl wz (aa (dV (aG 0) 2 a.1) (aa (vI a.2) ?_))
        obtain ⟨_,G,b⟩:=bind_some b
        refine qC mP rfl rfl (jM G) (gK G) wz ?_
        obtain ⟨i,T,b⟩:=bind_some b
        refine nI 13 0 (.inr (by kernel_rfl)) (λ_ _ ag=>⟨.inl ⟨rfl,rfl⟩,trivial⟩) o9 yZ rfl rfl T (.d (.agg (Run.enc i))) rfl wz ?_
        obtain ⟨_,H,b⟩:=bind_some b
        refine qC mP rfl rfl (jM H) (gK H) wz ?_
        obtain ⟨Â,U,b⟩:=bind_some b
        refine A7 15 (.inr (by kernel_rfl)) (λ_ _ ag=>⟨.inr (.inr (by kernel_rfl)),⟨.inr (.inr (by kernel_rfl)),trivial⟩⟩) 0 o9 rfl rfl U g rfl wz (eU (v':=(dV (aG 0) 2 (a.1.set (0+(a.2).toNat) g))) 0 rfl (lH (by simp)) (eU (v':=(dV (aG 0) 2 (a.1.set (0+(a.2).toNat) g))) 37 rfl (lH (by simp)) (eU (v':=(dV (aG 0) 2 (a.1.set (0+(a.2).toNat) g))) 39 rfl (lH (by simp)) (eU (v':=(dV (aG 0) 2 (a.1.set (0+(a.2).toNat) g))) 42 rfl (lH (by simp)) (eU (v':=(dV (aG 0) 2 (a.1.set (0+(a.2).toNat) g))) 47 rfl (lH (by simp)) ?_)))))
        obtain ⟨_,I,b⟩:=bind_some b
        refine qC mP rfl rfl (jM I) (gK I) wz ?_
        obtain ⟨Ã,W,b⟩:=bind_some b
        refine A7 17 (.inr (by kernel_rfl)) (λ_ _ ag=>⟨.inr (.inr (by kernel_rfl)),⟨.inr (.inr (by kernel_rfl)),⟨.inr (.inr (by kernel_rfl)),trivial⟩⟩⟩) 0 o9 rfl rfl W i rfl wz (eU (v':=(dV (aG 0) 2 ((a.1.set (0+(a.2).toNat) g).set (0+((w64 (a.2-1))).toNat) i))) 0 rfl (lH (by simp)) (eU (v':=(dV (aG 0) 2 ((a.1.set (0+(a.2).toNat) g).set (0+((w64 (a.2-1))).toNat) i))) 37 rfl (lH (by simp)) (eU (v':=(dV (aG 0) 2 ((a.1.set (0+(a.2).toNat) g).set (0+((w64 (a.2-1))).toNat) i))) 39 rfl (lH (by simp)) (eU (v':=(dV (aG 0) 2 ((a.1.set (0+(a.2).toNat) g).set (0+((w64 (a.2-1))).toNat) i))) 42 rfl (lH (by simp)) (eU (v':=(dV (aG 0) 2 ((a.1.set (0+(a.2).toNat) g).set (0+((w64 (a.2-1))).toNat) i))) 47 rfl (lH (by simp)) (ah (av (aa (vI a.2) (aa (vI (w64 (a.2-1))) (aa (vI (w64 (a.2-1))) (ah ?_)))))))))))
        obtain rfl:=af b
        exact aU (t,(((a.1.set (0+(a.2).toNat) g).set (0+((w64 (a.2-1))).toNat) i),(w64 (a.2-1)))) m (ls_ _) rfl (aI rfl)
       ·refine aA rfl x (aS ?_)
        obtain rfl:=af b
        obtain rfl:=af m
        exact aV ((a.1,a.2)) rfl rfl (aI rfl)
    ·rintro a A K B q n
     subst A
     refine aN _ q n (av (aa (vI c.2) (aa (vI (w64 (c.2+1))) (aa (vI (w64 (c.2+1))) (ah ?_)))))
     obtain rfl:=af j
     exact aU (u,(a.1,(w64 (c.2+1)))) l (ls_ _) rfl (aI rfl)
   ·refine aA rfl v (aS ?_)
    obtain rfl:=af j
    obtain rfl:=af l
    exact aV ((c.1,c.2)) rfl rfl (aI rfl)
 ·rintro c A K B q n
  subst A
  show uz _ _ _ _ _ _ _ _
  obtain rfl:=af p
  exact xU (H0:=([((aG 0),gB 2 Run.enc c.1)]:Hp)) (sl':=envS []) n (Hz (bs:=([]:List Box)) (os:=([]:List Box)) (xs:=k) (o:=gB 2 Run.enc c.1) (.inl rfl) [] trivial rfl rfl rfl rfl rfl (by kernel_rfl) rC rfl)
theorem nE {a:(List Run)} {c:Int} {d:Int} {e:Int} {r:(List Run)} (f:dF a c d e=some r) :
  FnM Tryz.prog 170 [(dV (aG 0) 2 a),(vI c),(vI d),(vI e),(.fn 138 [])] (([]:List Box)++gI 2 Run.enc a) (.tup []) (([]:List Box).map some++gT a (gB 2 Run.enc r)):=by
 refine FnM.of_wHv ⟨Tryz.prog,148,[],[]⟩ rfl Tryz.func170 rfl rfl (lb_ rfl) (by kernel_rfl) ?_
 unfold dF at f
 refine aj (aa (vB true) (ah (aj (aa (vB true) (ah ?_)))))
 obtain ⟨v,m,f⟩:=bind_some f
 obtain ⟨u,m⟩:=dJ m
 refine gq (λ(j:Unit)=>[]) (λ(j:Unit)=>[((aG 0),gB 2 Run.enc a)]) (λ(n:Nat)=>(λ(j:Unit)=>[(0,(dV (aG 0) 2 a)),(1,(vI c)),(2,(vI d)),(3,(vI e)),(4,(.fn 138 [])),(10,(vB true)),(11,(vB true))])) (λs=>dz d c a e s) v u () m rfl (aI rfl) ?_ ?_
 ·rintro ⟨n,j⟩ g
  dsimp only at g
  cases n with
  | zero=>cases g
  | succ n =>
   obtain ⟨x,b,g⟩:=bind_some g
   unfold dz at b
   refine aM (aj (aa (vI d) (aa (vI c) (aa (vI (w64 (d-c))) (aa (vI (w64 (d-c))) (ah (au (aj (aa (vI (w64 (d-c))) (aa (vB (decide ((w64 (d-c))<=12))) (ah ?_)))))))))))
   rcases ak b with⟨k,b⟩|⟨k,b⟩
   ·refine aB rfl k (aj (aa (dV (aG 0) 2 a) (aa (vI c) (aa (vI d) (aa (.fn 138 []) ?_)))))
    obtain ⟨i,t,b⟩:=bind_some b
    obtain ⟨_,h,b⟩:=bind_some b
    replace h:=qo h
    refine oN 0 [] 0 0 il ft (kR t) rfl hb183 rfl rfl rfl (by kernel_rfl) rfl (.inr (.inl rfl)) rfl (by kernel_rfl) (by kernel_rfl) (by kernel_rfl) (by kernel_rfl) rfl (by decide) (by kernel_rfl) rC (Ay h) wz ([((aG 0),gB 2 Run.enc i)]:Hp) (by kernel_rfl) (eU (v':=(dV (aG 0) 2 i)) 0 rfl (lH h.symm) (eU (v':=(dV (aG 0) 2 i)) 26 rfl (lH h.symm) (ah ?_)))
    obtain rfl:=af b
    obtain rfl:=af g
    obtain rfl:=af f
    exact aC (Hz (bs:=([]:List Box)) (os:=([]:List Box)) (xs:=a) (o:=gB 2 Run.enc i) (.inr rfl) [] trivial rfl rfl rfl rfl rfl (by kernel_rfl) rC rfl)
   ·refine aA rfl k (ax (au (aj (aa (vI e) (aa (vB (e==0)) (ah ?_))))))
    rcases ak b with⟨l,b⟩|⟨l,b⟩
    ·refine aB rfl l (aj (aa (dV (aG 0) 2 a) (aa (vI c) (aa (vI d) (aa (.fn 138 []) ?_)))))
     cases b
    ·refine aA rfl l (ax (au (aj (aa (vB true) (aa (vB false) (ah (aA rfl rfl (ax (aj (aa (dV (aG 0) 2 a) (aa (vI c) (aa (vI d) (aa (.fn 138 []) ?_)))))))))))))
     cases b
 ·rintro j p z w y q
  subst p
  show uz _ _ _ _ _ _ _ _
  obtain rfl:=af f
  exact xU (H0:=([((aG 0),gB 2 Run.enc a)]:Hp)) (sl':=envS []) q (Hz (bs:=([]:List Box)) (os:=([]:List Box)) (xs:=a) (o:=gB 2 Run.enc a) (.inl rfl) [] trivial rfl rfl rfl rfl rfl (by kernel_rfl) rC rfl)
theorem lq {a:(List Run)} {r:(List Run)} (b:dh a=some r) :
  FnM Tryz.prog 137 [(dV (aG 0) 2 a),(.fn 138 [])] (([]:List Box)++gI 2 Run.enc a) (.tup []) (([]:List Box).map some++gT a (gB 2 Run.enc r)):=by
 refine FnM.of_wHv ⟨Tryz.prog,14,[],[]⟩ rfl Tryz.func137 rfl rfl (lb_ rfl) (by kernel_rfl) ?_
 unfold dh at b
 refine aj (aa (dV (aG 0) 2 a) (BJ AL rfl wz (aa (vI (a.length:Int)) (ah (av (aa (dV (aG 0) 2 a) (aa (vI (a.length:Int)) (aa (vI (a.length:Int)) (oO un3 KN rfl wz ?_)))))))))
 obtain ⟨g,e,b⟩:=bind_some b
 refine aF (Dj e) rfl hb80 rfl rfl rfl rfl wz (aa (.fn 138 []) ?_)
 obtain ⟨d,f,b⟩:=bind_some b
 obtain ⟨_,c,b⟩:=bind_some b
 replace c:=qo c
 refine oN 0 [] 0 0 il ft (nE f) rfl hb170 rfl rfl rfl (by kernel_rfl) rfl (.inr (.inl rfl)) rfl (by kernel_rfl) (by kernel_rfl) (by kernel_rfl) (by kernel_rfl) rfl (by decide) (by kernel_rfl) rC (Ay c) wz ([((aG 0),gB 2 Run.enc d)]:Hp) (by kernel_rfl) (eU (v':=(dV (aG 0) 2 d)) 0 rfl (lH c.symm) (eU (v':=(dV (aG 0) 2 d)) 5 rfl (lH c.symm) (eU (v':=(dV (aG 0) 2 d)) 7 rfl (lH c.symm) (ah ?_))))
 show uz _ _ _ _ _ _ _ _
 obtain rfl:=af b
 exact Hz (bs:=([]:List Box)) (os:=([]:List Box)) (xs:=a) (o:=gB 2 Run.enc d) (.inl rfl) [] trivial rfl rfl rfl rfl rfl (by kernel_rfl) rC rfl
theorem zb {j:(List Rect)} {o:Int} {r:(List Run)} (q:pE j o=some r) :
  FnM Tryz.prog 96 [(vL Rect.enc j),(vI o)] [] (vL Run.enc r) []:=by
 refine FnM.of_wH ⟨Tryz.prog,84,[],[]⟩ rfl Tryz.func96 rfl rfl (lb_ rfl) (by kernel_rfl) ?_
 unfold pE at q
 refine aj (aa .nil (ah (aj (aa .nil (ah (au (aj (aa (vL Rect.enc j) (bS DL rfl wz (aa (vI 0) (ah (iO (λÛ => ?_)))))))))))))
 obtain ⟨Ü,À,q⟩:=bind_some q
 obtain ⟨Ò,À⟩:=aW À
 refine gH (σ:=(List Run)) (N:=Nm) (λp=>(λ(l:List Run) (e:Nm)=>([(5,(gV e 2 l))]:SL_)) p.1 p.2) (λp=>(λ(l:List Run) (e:Nm)=>([(e,gB 2 Run.enc l)]:Hp)) p.1 p.2) (λ(u:Nat)=>(λp=>(λ(l:List Run) (e:Nm)=>([(1,(vI o)),(5,(gV e 2 l)),(12,(vL Rect.enc j)),(13,(vI (j.length:Int))),(14,(vI (u:Int)))]:SL_)) p.1 p.2)) (λk x s=>qp o k x s) Ü j (([]:List Run),Û) À rfl (aI rfl) ?_ ?_
 ·rintro ⟨u,Ä,l,e⟩ ⟨G,B⟩
  dsimp only at G B
  cases Ä with
  | nil =>
   obtain rfl:=af G
   refine aj (aa (vB (decide ((u:Int)<(j.length:Int)))) (ah ?_))
   refine au (aA rfl (drop_nil B) (aS ?_))
   exact aV (l,e) rfl rfl (aI rfl)
  | cons b Ä =>
   obtain ⟨Ð,C,G⟩:=bind_some G
   refine aj (aa (vB (decide ((u:Int)<(j.length:Int)))) (ah ?_))
   refine au (aB rfl (bv B) (ax ?_))
   unfold qp at C
   refine au (aM (aj (dR Jg rfl rfl (bJ B) rfl wz (bN zt LP rfl (.d (.agg (Rect.enc b))) rfl wz (bZ 0 (.inl rfl) z84 rfl wz (λÅ=>dY 0 il ft 1 zt rfl rfl (Rect.v b) rfl wz (ah (au ?_))))))))
   obtain ⟨Þ,J,C⟩:=bind_some C
   refine aP [(1,(vI o)),(5,(gV e 2 l)),(7,(.ref Å 0 0)),(12,(vL Rect.enc j)),(13,(vI (j.length:Int))),(14,(vI (u:Int))),(30,(vB Þ))] [(e,gB 2 Run.enc l),(Å,some (.cells 4 (Rect.v b)))] ?_ ?_
   ·refine av (aH ze rfl 1 rfl wz (ay 0 1 il ft sz3 ag3 rfl rfl (vI b.Y) rfl wz (aa (vI o) (aa (vB (decide (b.Y<=o))) ?_))))
    rcases ak J with⟨R,J⟩|⟨R,J⟩
    ·refine aD rfl R wz (aK (vI o) wa rfl (aH ze rfl 1 rfl wa (ay 0 1 il ft sz3 ag3 rfl rfl (vI b.Y) rfl wa (aH Hr rfl 3 rfl wa (ay 0 1 il ft sz3 ag3 rfl rfl (vI b.H) rfl wa (aK (vI (w64 (b.Y+b.H))) wa rfl (aK (vB (decide (o<(w64 (b.Y+b.H))))) wa rfl (aa (vB (decide (o<(w64 (b.Y+b.H))))) (ah ?_)))))))))
     obtain rfl:=af J
     exact cu
    ·refine aD rfl R wz (ae (ae (ae (ae (ae (ae (ae (aa (vB false) (ah ?_)))))))))
     obtain rfl:=af J
     exact cu
   ·rintro ⟨⟩ _ O F m n
    refine aN _ m n ?_
    obtain ⟨Ç,y,C⟩:=bind_some C
    refine lG (β:=Nm) (λ(L:Nm)=>([(1,(vI o)),(5,(gV L 2 Ç)),(12,(vL Rect.enc j)),(13,(vI (j.length:Int))),(14,(vI (u:Int)))]:SL_)) (λ(L:Nm)=>([(L,gB 2 Run.enc Ç),(Å,some (.cells 4 (Rect.v b)))]:Hp)) (λ_=>True) ?_ ?_
    ·rcases ak y with⟨T,y⟩|⟨T,y⟩
     ·refine aB rfl T (av (aa (gV e 2 l) (aH Dv rfl 0 rfl wz (ay 0 1 il ft sz3 ag3 rfl rfl (vI b.X) rfl wz (aH Dv rfl 0 rfl wz (ay 0 1 il ft sz3 ag3 rfl rfl (vI b.X) rfl wz (aH JY rfl 2 rfl wz (ay 0 1 il ft sz3 ag3 rfl rfl (vI b.W) rfl wz (aa (vI (w64 (b.X+b.W))) (aK (.d (.agg (Run.enc (⟨b.X,(w64 (b.X+b.W))⟩:Run)))) wz (by kernel_rfl) (eP (([(⟨b.X,(w64 (b.X+b.W))⟩:Run)]:List Run).map Run.enc) mP M6 rfl rfl rfl rfl rfl wz ?_)))))))))))
      obtain ⟨Î,Ø,y⟩:=bind_some y
      refine kJ 0 il ft (i:=0) Ee Ee o9 z164 rfl (by decide) NN (by decide) (λ_=>rfl) rfl rfl rfl Ø wz (λÌ=>aa (gV Ì 2 Î) (ah ?_))
      obtain rfl:=af y
      exact aV Ì trivial rfl (aI rfl)
     ·refine aA rfl T (ax ?_)
      obtain rfl:=af y
      exact aV e trivial rfl (aI rfl)
    ·rintro L _ O F m n
     refine aN _ m n (av (dX (bD B Ò) wz rfl (aa (vI ((u+1:Nat):Int)) (ah ?_))))
     obtain rfl:=af C
     exact aU (u+1,Ä,Ç,L) ⟨G,aQ B⟩ (ls_ _) rfl (aI rfl)
 ·rintro ⟨l,e⟩ Â O F m n
  subst Â
  refine aN _ m n (aj (aa (gV e 2 l) ?_))
  obtain ⟨g,Ó,q⟩:=bind_some q
  obtain ⟨_,K,q⟩:=bind_some q
  replace K:=qo K
  refine oN 0 [] 0 0 il ft (lq Ó) rfl hb137 rfl rfl rfl (by kernel_rfl) rfl (.inl rfl) rfl (by kernel_rfl) (by kernel_rfl) (by kernel_rfl) (by kernel_rfl) rfl (by decide) (by kernel_rfl) rC (Ay K) wz ([(e,gB 2 Run.enc g)]:Hp) (by kernel_rfl) (eU (v':=(gV e 2 g)) 43 rfl (ja K.symm) (eU (v':=(gV e 2 g)) 5 rfl (ja K.symm) (ah (aj (aa .nil (ah (au (aj (aa (gV e 2 g) (BC AL rfl wz (aa (vI 0) (ah (jb 0 rfl (fC 5 0 rfl rfl (fC 43 0 rfl rfl (fC 45 0 rfl rfl (iO (λÚ => ?_))))))))))))))))))
  obtain ⟨Ý,Á,q⟩:=bind_some q
  obtain ⟨Ñ,Á⟩:=aW Á
  refine gH (σ:=(List Run)) (N:=Nm) (λp=>(λ(a:List Run) (c:Nm)=>([(8,(gV c 2 a))]:SL_)) p.1 p.2) (λp=>(λ(a:List Run) (c:Nm)=>([(e,gF 2 Run.enc g),(c,gB 2 Run.enc a)]:Hp)) p.1 p.2) (λ(w:Nat)=>(λp=>(λ(a:List Run) (c:Nm)=>([(8,(gV c 2 a)),(45,(vL Run.enc g)),(46,(vI (g.length:Int))),(47,(vI (w:Int)))]:SL_)) p.1 p.2)) (λk x s=>qh k x s) Ý g (([]:List Run),Ú) Á rfl (aI rfl) ?_ ?_
  ·rintro ⟨w,Ã,a,c⟩ ⟨I,A⟩
   dsimp only at I A
   cases Ã with
   | nil =>
    obtain rfl:=af I
    refine aj (aa (vB (decide ((w:Int)<(g.length:Int)))) (ah ?_))
    refine au (aA rfl (drop_nil A) (aS ?_))
    exact aV (a,c) rfl rfl (aI rfl)
   | cons f Ã =>
    obtain ⟨Ð,E,I⟩:=bind_some I
    refine aj (aa (vB (decide ((w:Int)<(g.length:Int)))) (ah ?_))
    refine au (aB rfl (bv A) (ax ?_))
    unfold qh at E
    refine au (aM (aj (dR mP rfl rfl (bJ A) rfl wz (bN o9 yZ rfl (.d (.agg (Run.enc f))) rfl wz (bZ 0 (.inl rfl) z164 rfl wz (λÆ=>dY 0 il ft 2 o9 rfl rfl [(vI f.f_from),(vI f.f_to)] rfl wz (ah (aj (aa (gV c 2 a) (BC AL rfl wz (aa (vI (w64 ((a.length:Int)-1))) (aa (vI (w64 ((a.length:Int)-1))) (ah (au ?_))))))))))))))
    obtain ⟨ß,t,E⟩:=bind_some E
    refine aP [(8,(gV c 2 a)),(10,(.ref Æ 0 0)),(11,(vI (w64 ((a.length:Int)-1)))),(45,(vL Run.enc g)),(46,(vI (g.length:Int))),(47,(vI (w:Int))),(65,(vB ß))] [(e,gF 2 Run.enc g),(c,gB 2 Run.enc a),(Æ,some (.cells 2 [(vI f.f_from),(vI f.f_to)]))] ?_ ?_
    ·refine bI (aa (vI (w64 ((a.length:Int)-1))) (aa (vB (decide ((w64 ((a.length:Int)-1))>=0))) ?_))
     rcases ak t with⟨U,t⟩|⟨U,t⟩
     ·refine aD rfl U wz (aH mE rfl 0 rfl wa (ay 4 2 (.inr (by kernel_rfl)) (λ_ _ ag=>trivial) sz3 ag3 rfl rfl (vI f.f_from) rfl wa (aK (gV c 2 a) wa rfl (aK (vI (w64 ((a.length:Int)-1))) wa rfl ?_))))
      obtain ⟨_,É,t⟩:=bind_some t
      refine uw mP rfl rfl (jM É) (gK É) wa (aH tZ rfl 1 rfl wa ?_)
      obtain ⟨Q,Ô,t⟩:=bind_some t
      refine nI 9 1 (.inr (by kernel_rfl)) (λ_ _ ag=>⟨.inl ⟨rfl,rfl⟩,trivial⟩) sz3 ag3 rfl rfl Ô (vI Q.f_to) rfl wa (aK (vB (decide (f.f_from<=Q.f_to))) wa rfl (aa (vB (decide (f.f_from<=Q.f_to))) (ah ?_)))
      obtain rfl:=af t
      exact cu
     ·refine aD rfl U wz (ae (ae (ae (ae (ae (ae (ae (ae (aa (vB false) (ah ?_))))))))))
      obtain rfl:=af t
      exact cu
    ·rintro ⟨⟩ _ O F m n
     refine aN _ m n ?_
     obtain ⟨È,h,E⟩:=bind_some E
     refine lG (β:=Nm) (λ(M:Nm)=>([(8,(gV M 2 È)),(45,(vL Run.enc g)),(46,(vI (g.length:Int))),(47,(vI (w:Int)))]:SL_)) (λ(M:Nm)=>([(e,gF 2 Run.enc g),(M,gB 2 Run.enc È),(Æ,some (.cells 2 [(vI f.f_from),(vI f.f_to)]))]:Hp)) (λ_=>True) ?_ ?_
     ·rcases ak h with⟨Z,h⟩|⟨Z,h⟩
      ·refine aB rfl Z (bI (aa (gV c 2 a) (aa (vI (w64 ((a.length:Int)-1))) (aa (gV c 2 a) (aa (vI (w64 ((a.length:Int)-1))) ?_)))))
       obtain ⟨_,Ê,h⟩:=bind_some h
       refine uw mP rfl rfl (jM Ê) (gK Ê) wz (aH tZ rfl 1 rfl wz ?_)
       obtain ⟨z,Õ,h⟩:=bind_some h
       refine nI 6 1 (.inr (by kernel_rfl)) (λ_ _ ag=>trivial) sz3 ag3 rfl rfl Õ (vI z.f_to) rfl wz (aH tZ rfl 1 rfl wz (ay 8 2 (.inr (by kernel_rfl)) (λ_ _ ag=>⟨.inl ⟨rfl,rfl⟩,trivial⟩) sz3 ag3 rfl rfl (vI f.f_to) rfl wz (si (vI (ol z.f_to f.f_to)) rfl (.inr rfl) wz ?_)))
       obtain ⟨_,Ë,h⟩:=bind_some h
       refine uw mP rfl rfl (jM Ë) (gK Ë) wz (aH tZ rfl 1 rfl wz ?_)
       obtain ⟨P,Ö,h⟩:=bind_some h
       refine A7 12 (.inr (by kernel_rfl)) (λ_ _ ag=>⟨.inr (.inr (by kernel_rfl)),⟨.inr (.inr (by kernel_rfl)),trivial⟩⟩) 1 sz3 rfl rfl Ö (⟨P.f_from,(ol z.f_to f.f_to)⟩:Run) rfl wz (eU (v':=(gV c 2 (a.set (0+((w64 ((a.length:Int)-1))).toNat) (⟨P.f_from,(ol z.f_to f.f_to)⟩:Run)))) 8 rfl (ja (by simp)) (eU (v':=(gV c 2 (a.set (0+((w64 ((a.length:Int)-1))).toNat) (⟨P.f_from,(ol z.f_to f.f_to)⟩:Run)))) 66 rfl (ja (by simp)) (eU (v':=(gV c 2 (a.set (0+((w64 ((a.length:Int)-1))).toNat) (⟨P.f_from,(ol z.f_to f.f_to)⟩:Run)))) 68 rfl (ja (by simp)) (ah ?_))))
       obtain rfl:=af h
       exact aV c trivial rfl (aI rfl)
      ·refine aA rfl Z (av (aa (gV c 2 a) (ay 0 2 il ft o9 yZ rfl rfl (.d (.agg (Run.enc f))) rfl wz (eP (([f]:List Run).map Run.enc) mP M6 rfl rfl rfl rfl rfl wz ?_))))
       obtain ⟨Ï,Ù,h⟩:=bind_some h
       refine kJ 0 il ft (i:=1) Ee Ee o9 z164 rfl (by decide) NN (by decide) (λ_=>rfl) rfl rfl rfl Ù wz (λÍ=>aa (gV Í 2 Ï) (ah ?_))
       obtain rfl:=af h
       exact aV Í trivial rfl (aI rfl)
     ·rintro M _ O F m n
      refine aN _ m n (av (dX (bD A Ñ) wz rfl (aa (vI ((w+1:Nat):Int)) (ah ?_))))
      obtain rfl:=af E
      exact aU (w+1,Ã,È,M) ⟨I,aQ A⟩ (ls_ _) rfl (aI rfl)
  ·rintro ⟨a,c⟩ Â O F m n
   subst Â
   refine aN _ m n (aj (aa (gV c 2 a) (aa (gV c 2 a) (ah (jb 1 rfl (fC 4 1 rfl rfl (fC 8 1 rfl rfl (fC 83 1 rfl rfl ?_))))))))
   obtain rfl:=af q
   exact aC (aL [(vL Run.enc a)] ⟨rfl,trivial⟩)
theorem F8 {c:(List Run)} {f:(List Run)} {r:(List Run)} (O:rG c f=some r) :
  FnM Tryz.prog 95 [(vL Run.enc c),(vL Run.enc f)] [] (vL Run.enc r) []:=by
 refine FnM.of_wH ⟨Tryz.prog,88,[],[]⟩ rfl Tryz.func95 rfl rfl (lb_ rfl) (by kernel_rfl) ?_
 unfold rG at O
 refine aj (aa .nil (ah (aj (aa .nil (ah (aj (aa (vI 0) (ah (au (aj (aa (vL Run.enc c) (bS AL rfl wz (aa (vI 0) (ah (iO (λÔ => ?_))))))))))))))))
 obtain ⟨Ø,Á,O⟩:=bind_some O
 obtain ⟨Ì,Á⟩:=aW Á
 refine gH (σ:=(List Run)×Int) (N:=Nm) (λp=>(λ(g:(List Run)×Int) (h:Nm)=>([(5,(gV h 2 g.1))]:SL_)) p.1 p.2) (λp=>(λ(g:(List Run)×Int) (h:Nm)=>([(h,gB 2 Run.enc g.1)]:Hp)) p.1 p.2) (λ(l:Nat)=>(λp=>(λ(g:(List Run)×Int) (h:Nm)=>([(1,(vL Run.enc f)),(5,(gV h 2 g.1)),(6,(vI g.2)),(10,(vL Run.enc c)),(11,(vI (c.length:Int))),(12,(vI (l:Int)))]:SL_)) p.1 p.2)) (λk x s=>nD f k x s) Ø c ((([]:List Run),0),Ô) Á rfl (aI rfl) ?_ ?_
 ·rintro ⟨l,Ä,g,h⟩ ⟨G,B⟩
  dsimp only at G B
  cases Ä with
  | nil =>
   obtain rfl:=af G
   refine aj (aa (vB (decide ((l:Int)<(c.length:Int)))) (ah ?_))
   refine au (aA rfl (drop_nil B) (aS ?_))
   exact aV (g,h) rfl rfl (aI rfl)
  | cons b Ä =>
   obtain ⟨Ç,u,G⟩:=bind_some G
   refine aj (aa (vB (decide ((l:Int)<(c.length:Int)))) (ah ?_))
   refine au (aB rfl (bv B) (ax ?_))
   unfold nD at u
   refine au (aM (aj (dR mP rfl rfl (bJ B) rfl wz (bN o9 yZ rfl (.d (.agg (Run.enc b))) rfl wz (bZ 0 (.inl rfl) z164 rfl wz (λq=>dY 0 il ft 1 o9 rfl rfl [(vI b.f_from),(vI b.f_to)] rfl wz (ah (au ?_))))))))
   obtain ⟨Ù,Â,u⟩:=bind_some u
   obtain ⟨Ö,Â⟩:=dJ Â
   refine gq (λ(e:Int)=>[(1,(vL Run.enc f)),(5,(gV h 2 g.1)),(6,(vI e)),(8,(.ref q 0 0)),(10,(vL Run.enc c)),(11,(vI (c.length:Int))),(12,(vI (l:Int)))]) (λ(e:Int)=>[(h,gB 2 Run.enc g.1),(q,some (.cells 2 [(vI b.f_from),(vI b.f_to)]))]) (λ(P:Nat)=>(λ(e:Int)=>[(1,(vL Run.enc f)),(5,(gV h 2 g.1)),(6,(vI e)),(8,(.ref q 0 0)),(10,(vL Run.enc c)),(11,(vI (c.length:Int))),(12,(vI (l:Int)))])) (λs=>pY f b s) Ù Ö g.2 Â rfl (aI rfl) ?_ ?_
   ·rintro ⟨P,e⟩ C
    dsimp only at C
    cases P with
    | zero=>cases C
    | succ P =>
     obtain ⟨Ç,v,C⟩:=bind_some C
     unfold pY at v
     refine au (au ?_)
     obtain ⟨Û,w,v⟩:=bind_some v
     refine aP [(1,(vL Run.enc f)),(5,(gV h 2 g.1)),(6,(vI e)),(8,(.ref q 0 0)),(10,(vL Run.enc c)),(11,(vI (c.length:Int))),(12,(vI (l:Int))),(29,(vB Û))] [(h,gB 2 Run.enc g.1),(q,some (.cells 2 [(vI b.f_from),(vI b.f_to)]))] ?_ ?_
     ·refine bI (aa (vI e) (aa (vL Run.enc f) (bS AL rfl wz (aa (vB (decide (e<(f.length:Int)))) ?_))))
      rcases ak w with⟨U,w⟩|⟨U,w⟩
      ·refine aD rfl U wz (aK (vL Run.enc f) wa rfl (aK (vI e) wa rfl ?_))
       obtain ⟨R,Í,w⟩:=bind_some w
       refine dR mP rfl rfl Í rfl wa (oJ tZ rfl [.int .i64 R.f_to] rfl rfl wa (bN sz3 ag3 rfl (vI R.f_to) rfl wa (aH mE rfl 0 rfl wa (ay 11 1 (.inr (by kernel_rfl)) (λ_ _ ag=>trivial) sz3 ag3 rfl rfl (vI b.f_from) rfl wa (aK (vB (decide (R.f_to<=b.f_from))) wa rfl (aa (vB (decide (R.f_to<=b.f_from))) (ah ?_)))))))
       obtain rfl:=af w
       exact cu
      ·refine aD rfl U wz (ae (ae (ae (ae (ae (ae (ae (ae (aa (vB false) (ah ?_))))))))))
       obtain rfl:=af w
       exact cu
     ·rintro ⟨⟩ _ F A n o
      refine aN _ n o ?_
      rcases ak v with⟨W,v⟩|⟨W,v⟩
      ·refine aB rfl W (ax (aM (av (aa (vI e) (aa (vI (w64 (e+1))) (aa (vI (w64 (e+1))) (ah ?_)))))))
       obtain rfl:=af v
       exact aU (P,(w64 (e+1))) C (ls_ _) rfl (aI rfl)
      ·refine aA rfl W (aS ?_)
       obtain rfl:=af v
       obtain rfl:=af C
       exact aV (e) rfl rfl (aI rfl)
   ·rintro e H F A n o
    subst H
    refine aN _ n o (au (aj (aa (vI e) (aa (vI e) (ah ?_)))))
    obtain ⟨Ú,Ã,u⟩:=bind_some u
    obtain ⟨Õ,Ã⟩:=dJ Ã
    refine zh (σ:=(List Run)×Int×Int) (N:=Nm) (λp=>(λ(a:(List Run)×Int×Int) (m:Nm)=>([(1,(vL Run.enc f)),(5,(gV m 2 a.1)),(6,(vI e)),(8,(.ref q 0 0)),(10,(vL Run.enc c)),(11,(vI (c.length:Int))),(12,(vI (l:Int)))]:SL_)) p.1 p.2) (λp=>(λ(a:(List Run)×Int×Int) (m:Nm)=>([(m,gB 2 Run.enc a.1),(q,some (.cells 2 [(vI a.2.2),(vI b.f_to)]))]:Hp)) p.1 p.2) (λ(Q:Nat)=>(λp=>(λ(a:(List Run)×Int×Int) (m:Nm)=>([(1,(vL Run.enc f)),(5,(gV m 2 a.1)),(6,(vI e)),(8,(.ref q 0 0)),(9,(vI a.2.1)),(10,(vL Run.enc c)),(11,(vI (c.length:Int))),(12,(vI (l:Int)))]:SL_)) p.1 p.2)) (λs=>pQ f b s) Ú Õ ((g.1,e,b.f_from),h) Ã rfl (aI rfl) ?_ ?_
    ·rintro ⟨Q,a,m⟩ E
     dsimp only at E
     cases Q with
     | zero=>cases E
     | succ Q =>
      obtain ⟨Ç,j,E⟩:=bind_some E
      unfold pQ at j
      refine au (au ?_)
      obtain ⟨Ü,y,j⟩:=bind_some j
      refine aP [(1,(vL Run.enc f)),(5,(gV m 2 a.1)),(6,(vI e)),(8,(.ref q 0 0)),(9,(vI a.2.1)),(10,(vL Run.enc c)),(11,(vI (c.length:Int))),(12,(vI (l:Int))),(46,(vB Ü))] [(m,gB 2 Run.enc a.1),(q,some (.cells 2 [(vI a.2.2),(vI b.f_to)]))] ?_ ?_
      ·refine bI (aa (vI a.2.1) (aa (vL Run.enc f) (bS AL rfl wz (aa (vB (decide (a.2.1<(f.length:Int)))) ?_))))
       rcases ak y with⟨X,y⟩|⟨X,y⟩
       ·refine aD rfl X wz (aK (vL Run.enc f) wa rfl (aK (vI a.2.1) wa rfl ?_))
        obtain ⟨K,Î,y⟩:=bind_some y
        refine dR mP rfl rfl Î rfl wa (oJ mE rfl [.int .i64 K.f_from,.int .i64 K.f_to] rfl rfl wa (bN sz3 ag3 rfl (vI K.f_from) rfl wa (aH tZ rfl 1 rfl wa (ay 11 1 (.inr (by kernel_rfl)) (λ_ _ ag=>trivial) sz3 ag3 rfl rfl (vI b.f_to) rfl wa (aK (vB (decide (K.f_from<b.f_to))) wa rfl (aa (vB (decide (K.f_from<b.f_to))) (ah ?_)))))))
        obtain rfl:=af y
        exact cu
       ·refine aD rfl X wz (ae (ae (ae (ae (ae (ae (ae (ae (aa (vB false) (ah ?_))))))))))
        obtain rfl:=af y
        exact cu
      ·rintro ⟨⟩ _ F A n o
       refine aN _ n o ?_
       rcases ak j with⟨Y,j⟩|⟨Y,j⟩
       ·refine aB rfl Y (ax (au (aM (au (au (bI (aa (vL Run.enc f) (aa (vI a.2.1) ?_))))))))
        obtain ⟨T,Ï,j⟩:=bind_some j
        refine dR mP rfl rfl Ï rfl wz (oJ mE rfl [.int .i64 T.f_from,.int .i64 T.f_to] rfl rfl wz (bN sz3 ag3 rfl (vI T.f_from) rfl wz (aH mE rfl 0 rfl wz (ay 6 1 (.inr (by kernel_rfl)) (λ_ _ ag=>trivial) sz3 ag3 rfl rfl (vI a.2.2) rfl wz (aa (vB (decide (T.f_from>a.2.2))) (ah ?_))))))
        obtain ⟨Å,t,j⟩:=bind_some j
        refine lG (β:=Nm) (λ(I:Nm)=>([(1,(vL Run.enc f)),(5,(gV I 2 Å)),(6,(vI e)),(8,(.ref q 0 0)),(9,(vI a.2.1)),(10,(vL Run.enc c)),(11,(vI (c.length:Int))),(12,(vI (l:Int)))]:SL_)) (λ(I:Nm)=>([(I,gB 2 Run.enc Å),(q,some (.cells 2 [(vI a.2.2),(vI b.f_to)]))]:Hp)) (λ_=>True) ?_ ?_
        ·rcases ak t with⟨Z,t⟩|⟨Z,t⟩
         ·refine aB rfl Z (bI (aa (gV m 2 a.1) (aH mE rfl 0 rfl wz (ay 2 1 (.inr (by kernel_rfl)) (λ_ _ ag=>trivial) sz3 ag3 rfl rfl (vI a.2.2) rfl wz (aa (vL Run.enc f) (aa (vI a.2.1) ?_))))))
          obtain ⟨L,Ð,t⟩:=bind_some t
          refine dR mP rfl rfl Ð rfl wz (oJ mE rfl [.int .i64 L.f_from,.int .i64 L.f_to] rfl rfl wz (bN sz3 ag3 rfl (vI L.f_from) rfl wz (aK (.d (.agg (Run.enc (⟨a.2.2,L.f_from⟩:Run)))) wz (by kernel_rfl) (eP (([(⟨a.2.2,L.f_from⟩:Run)]:List Run).map Run.enc) mP M6 rfl rfl rfl rfl rfl wz ?_))))
          obtain ⟨Ê,Ò,t⟩:=bind_some t
          refine kJ 10 (.inr (by kernel_rfl)) (λ_ _ ag=>⟨.inr (.inr (by kernel_rfl)),trivial⟩) (i:=0) Ee Ee o9 z164 rfl (by decide) NN (by decide) (λ_=>rfl) rfl rfl rfl Ò wz (λÈ=>aa (gV È 2 Ê) (ah ?_))
          obtain rfl:=af t
          exact aV È trivial rfl (aI rfl)
         ·refine aA rfl Z (ax ?_)
          obtain rfl:=af t
          exact aV m trivial rfl (aI rfl)
        ·rintro I _ F A n o
         refine aN _ n o (bI (aH mE rfl 0 rfl wz (ay 1 1 (.inr (by kernel_rfl)) (λ_ _ ag=>trivial) sz3 ag3 rfl rfl (vI a.2.2) rfl wz (aa (vL Run.enc f) (aa (vI a.2.1) ?_)))))
         obtain ⟨M,Ñ,j⟩:=bind_some j
         refine dR mP rfl rfl Ñ rfl wz (oJ tZ rfl [.int .i64 M.f_to] rfl rfl wz (bN sz3 ag3 rfl (vI M.f_to) rfl wz (si (vI (ol a.2.2 M.f_to)) rfl (.inr rfl) wz (aH mE rfl 0 rfl wz (dY 9 (.inr (by kernel_rfl)) (λ_ _ ag=>⟨.inr (.inr (by kernel_rfl)),trivial⟩) 1 sz3 rfl rfl [(vI (ol a.2.2 M.f_to)),(vI b.f_to)] rfl wz (ah (av (aa (vI a.2.1) (aa (vI (w64 (a.2.1+1))) (aa (vI (w64 (a.2.1+1))) (ah ?_)))))))))))
         obtain rfl:=af j
         exact aU (Q,(Å,(w64 (a.2.1+1)),(ol a.2.2 M.f_to)),I) E (ls_ _) rfl (aI rfl)
       ·refine aA rfl Y (aS ?_)
        obtain rfl:=af j
        obtain rfl:=af E
        exact aV ((a.1,a.2.1,a.2.2),m) rfl rfl (aI rfl)
    ·rintro ⟨a,m⟩ H F A n o
     subst H
     refine aN _ n o (aj (aH mE rfl 0 rfl wz (ay 0 1 il ft sz3 ag3 rfl rfl (vI a.2.2) rfl wz (aH tZ rfl 1 rfl wz (ay 0 1 il ft sz3 ag3 rfl rfl (vI b.f_to) rfl wz (aa (vB (decide (a.2.2<b.f_to))) (ah ?_)))))))
     obtain ⟨Æ,z,u⟩:=bind_some u
     refine lG (β:=Nm) (λ(J:Nm)=>([(1,(vL Run.enc f)),(5,(gV J 2 Æ)),(6,(vI e)),(10,(vL Run.enc c)),(11,(vI (c.length:Int))),(12,(vI (l:Int)))]:SL_)) (λ(J:Nm)=>([(J,gB 2 Run.enc Æ),(q,some (.cells 2 [(vI a.2.2),(vI b.f_to)]))]:Hp)) (λ_=>True) ?_ ?_
     ·rcases ak z with⟨À,z⟩|⟨À,z⟩
      ·refine aB rfl À (av (aa (gV m 2 a.1) (ay 0 1 il ft o9 yZ rfl rfl (.d (.agg (Run.enc (⟨a.2.2,b.f_to⟩:Run)))) rfl wz (eP (([(⟨a.2.2,b.f_to⟩:Run)]:List Run).map Run.enc) mP M6 rfl rfl rfl rfl rfl wz ?_))))
       obtain ⟨Ë,Ó,z⟩:=bind_some z
       refine kJ 0 il ft (i:=0) Ee Ee o9 z164 rfl (by decide) NN (by decide) (λ_=>rfl) rfl rfl rfl Ó wz (λÉ=>aa (gV É 2 Ë) (ah ?_))
       obtain rfl:=af z
       exact aV É trivial rfl (aI rfl)
      ·refine aA rfl À (ax ?_)
       obtain rfl:=af z
       exact aV m trivial rfl (aI rfl)
     ·rintro J _ F A n o
      refine aN _ n o (av (dX (bD B Ì) wz rfl (aa (vI ((l+1:Nat):Int)) (ah ?_))))
      obtain rfl:=af u
      exact aU (l+1,Ä,(Æ,e),J) ⟨G,aQ B⟩ (ls_ _) rfl (aI rfl)
 ·rintro ⟨g,h⟩ H F A n o
  subst H
  refine aN _ n o (aj (aa (gV h 2 g.1) (aa (gV h 2 g.1) (ah (jb 0 rfl (fC 4 0 rfl rfl (fC 5 0 rfl rfl (fC 87 0 rfl rfl ?_))))))))
  obtain rfl:=af O
  exact aC (aL [(vL Run.enc g.1)] ⟨rfl,trivial⟩)
theorem nQ {s1_1:(List Run)} {s2_2:(List Run)} {r:Bool} (b:eH s1_1 s2_2=some r) :
  FnM Tryz.prog 97 [(vL Run.enc s1_1),(vL Run.enc s2_2)] [] (vB r) []:=by
 refine FnM.of_wH ⟨Tryz.prog,26,[],[]⟩ rfl Tryz.func97 rfl rfl (lb_ rfl) (by kernel_rfl) ?_
 unfold eH at b
 refine aj (aa (vB false) (ah (au (aj (aa (vL Run.enc s1_1) (bS AL rfl wz (aa (vL Run.enc s2_2) (bS AL rfl wz (aa (vB ((s1_1.length:Int) != (s2_2.length:Int))) (ah ?_))))))))))
 rcases ak b with⟨i,b⟩|⟨i,b⟩
 ·refine aB rfl i (aj (aa (vB false) (ah ?_)))
  obtain rfl:=af b
  exact aC (aL [(vB false)] ⟨rfl,trivial⟩)
 ·refine aA rfl i (ax (au (aj (aa (vL Run.enc s1_1) (bS AL rfl wz (aa (vI 0) (ah ?_)))))))
  obtain ⟨v,j,b⟩:=bind_some b
  obtain ⟨o,j⟩:=aW j
  refine cz (λ(g:Unit)=>[]) (λ(g:Unit)=>[]) (λ(a:Nat)=>(λ(g:Unit)=>[(0,(vL Run.enc s1_1)),(1,(vL Run.enc s2_2)),(12,(vI (s1_1.length:Int))),(13,(vI (a:Int)))])) (λk x s=>fH s2_2 k x s) v s1_1 () j rfl (aI rfl) ?_ ?_
  ·rintro ⟨a,l,g⟩ ⟨f,e⟩
   dsimp only at f e
   cases l with
   | nil =>
    obtain rfl:=af f
    refine aj (aa (vB (decide ((a:Int)<(s1_1.length:Int)))) (ah ?_))
    refine au (aA rfl (drop_nil e) (aS ?_))
    exact aV (g) rfl rfl (aI rfl)
   | cons m l =>
    obtain ⟨y,c,f⟩:=bind_some f
    refine aj (aa (vB (decide ((a:Int)<(s1_1.length:Int)))) (ah ?_))
    refine au (aB rfl (bv e) (ax ?_))
    unfold fH at c
    refine au (aM (aj (aa (vI (a:Int)) (aa (vI (a:Int)) (ah (au (bI (aa (vL Run.enc s1_1) (aa (vI (a:Int)) (dR mP rfl rfl (bJ e) rfl wz (bN o9 yZ rfl (.d (.agg (Run.enc m))) rfl wz (aa (vL Run.enc s2_2) (aa (vI (a:Int)) ?_)))))))))))))
    obtain ⟨n,u,c⟩:=bind_some c
    refine dR mP rfl rfl u rfl wz (bN o9 yZ rfl (.d (.agg (Run.enc n))) rfl wz (aK (vB (!((m.f_from==n.f_from)&&((m.f_to==n.f_to)&&true)))) wz (by kernel_rfl) (ah ?_)))
    rcases ak c with⟨h,c⟩|⟨h,c⟩
    ·refine aB rfl h (aj (aa (vB false) (ah ?_)))
     obtain rfl:=af c
     obtain rfl:=af f
     obtain rfl:=af b
     exact aC (aL [(vB false)] ⟨rfl,trivial⟩)
    ·refine aA rfl h (ax (av (dX (bD e o) wz rfl (aa (vI ((a+1:Nat):Int)) (ah ?_)))))
     obtain rfl:=af c
     exact aU (a+1,l,()) ⟨f,aQ e⟩ (ls_ _) rfl (aI rfl)
  ·rintro g p z w q t
   subst p
   refine aN _ q t (aj (aa (vB true) (ah ?_)))
   obtain rfl:=af b
   exact aC (aL [(vB true)] ⟨rfl,trivial⟩)
theorem DY {m:(List Rect)} {n:(List Rect)} {r:(List Rect)} (g:oG m n=some r) :
  FnM Tryz.prog 66 [(vL Rect.enc m),(vL Rect.enc n)] [] (vL Rect.enc r) []:=by
 refine FnM.of_wH ⟨Tryz.prog,88,[],[]⟩ rfl Tryz.func66 rfl rfl (lb_ rfl) (by kernel_rfl) ?_
 unfold oG at g
 refine aj (aa .nil (ah (aj (aa .nil (ah (au (aj (aa (vL Rect.enc m) (aa (vL Rect.enc n) (eP (([m,n]:List (List Rect)).map (eL Rect.enc)) QF ez198 rfl rfl rfl rfl rfl wz ?_))))))))))
 obtain ⟨O,Ï,g⟩:=bind_some g
 refine aF (oP Ï) rfl hb94 rfl rfl rfl rfl wz (bS DL rfl wz (aa (vI 0) (ah (iO (λÖ => ?_)))))
 obtain ⟨Ù,Z,g⟩:=bind_some g
 obtain ⟨Ì,Z⟩:=aW Z
 refine gH (σ:=(List Int)) (N:=Nm) (λp=>(λ(t:List Int) (c:Nm)=>([(0,(vL Rect.enc m)),(1,(vL Rect.enc n)),(5,(gV c 1 t))]:SL_)) p.1 p.2) (λp=>(λ(t:List Int) (c:Nm)=>([(c,gB 1 eI t)]:Hp)) p.1 p.2) (λ(G:Nat)=>(λp=>(λ(t:List Int) (c:Nm)=>([(0,(vL Rect.enc m)),(1,(vL Rect.enc n)),(5,(gV c 1 t)),(19,(vL Rect.enc O)),(20,(vI (O.length:Int))),(21,(vI (G:Int)))]:SL_)) p.1 p.2)) (λk x s=>nJ k x s) Ù O (([]:List Int),Ö) Z rfl (aI rfl) ?_ ?_
 ·rintro ⟨G,Ã,t,c⟩ ⟨J,E⟩
  dsimp only at J E
  cases Ã with
  | nil =>
   obtain rfl:=af J
   refine aj (aa (vB (decide ((G:Int)<(O.length:Int)))) (ah ?_))
   refine au (aA rfl (drop_nil E) (aS ?_))
   exact aV (t,c) rfl rfl (aI rfl)
  | cons w Ã =>
   obtain ⟨Ç,P,J⟩:=bind_some J
   refine aj (aa (vB (decide ((G:Int)<(O.length:Int)))) (ah ?_))
   refine au (aB rfl (bv E) (ax ?_))
   unfold nJ at P
   refine au (aM (aj (dR Jg rfl rfl (bJ E) rfl wz (bN zt LP rfl (.d (.agg (Rect.enc w))) rfl wz (bZ 0 (.inl rfl) z84 rfl wz (λÝ=>dY 0 il ft 1 zt rfl rfl (Rect.v w) rfl wz (ah (av (aa (gV c 1 t) (aH ze rfl 1 rfl wz (ay 0 1 il ft sz3 ag3 rfl rfl (vI w.Y) rfl wz (aH ze rfl 1 rfl wz (ay 0 1 il ft sz3 ag3 rfl rfl (vI w.Y) rfl wz (aH Hr rfl 3 rfl wz (ay 0 1 il ft sz3 ag3 rfl rfl (vI w.H) rfl wz (aa (vI (w64 (w.Y+w.H))) (eP (([w.Y,(w64 (w.Y+w.H))]:List Int).map eI) ko yQ rfl rfl rfl rfl rfl wz ?_)))))))))))))))))
   obtain ⟨Å,Ô,P⟩:=bind_some P
   refine kJ 0 il ft (i:=0) Jy Jy sz3 z3 rfl (by decide) by3 (by decide) (λ_=>rfl) rfl rfl rfl Ô wz (λÉ=>aa (gV É 1 Å) (ah (av (dX (bD E Ì) wz rfl (aa (vI ((G+1:Nat):Int)) (ah ?_))))))
   obtain rfl:=af P
   exact aU (G+1,Ã,Å,É) ⟨J,aQ E⟩ (ls_ _) rfl (aI rfl)
 ·rintro ⟨t,c⟩ L Ä U z A
  subst L
  refine aN _ z A (aj (aa (gV c 1 t) ?_))
  obtain ⟨T,Í,g⟩:=bind_some g
  obtain ⟨_,M,g⟩:=bind_some g
  replace M:=qo M
  refine oN 0 [] 0 0 il ft (nX Í) rfl hb86 rfl rfl rfl (by kernel_rfl) rfl (.inl rfl) rfl (by kernel_rfl) (by kernel_rfl) (by kernel_rfl) (by kernel_rfl) rfl (by decide) (by kernel_rfl) rC (Ay M) wz ([(c,gB 1 eI T)]:Hp) (by kernel_rfl) (eU (v':=(gV c 1 T)) 36 rfl (ja M.symm) (eU (v':=(gV c 1 T)) 5 rfl (ja M.symm) (ah (aj (aa (gV c 1 T) ?_)))))
  obtain ⟨b,Î,g⟩:=bind_some g
  refine oN 0 [] 0 0 il ft (l6 Î) rfl hb87 rfl rfl rfl (by kernel_rfl) rfl (.inl rfl) rfl (by kernel_rfl) (by kernel_rfl) (by kernel_rfl) (by kernel_rfl) rfl (by decide) (by kernel_rfl) Cc (λ_=>rfl) wz ([(c,none)]:Hp) (by kernel_rfl) (aa (vL eI b) (ah (aj (aa .nil (ah (aj (aa .nil (ah (aj (aa (vI 0) (ah (au (aj (aa (vL eI b) (bS sN rfl wz (aa (vI 0) (ah (NJ Run.enc 9 rfl (iO (λØ => ?_))))))))))))))))))))
  obtain ⟨Ú,À,g⟩:=bind_some g
  obtain ⟨È,À⟩:=aW À
  refine gH (σ:=(List Rect)×(List Run)×Int) (N:=Nm) (λp=>(λ(a:(List Rect)×(List Run)×Int) (h:Nm)=>([(8,(gV h 4 a.1))]:SL_)) p.1 p.2) (λp=>(λ(a:(List Rect)×(List Run)×Int) (h:Nm)=>([(c,none),(h,gB 4 Rect.enc a.1)]:Hp)) p.1 p.2) (λ(e:Nat)=>(λp=>(λ(a:(List Rect)×(List Run)×Int) (h:Nm)=>([(0,(vL Rect.enc m)),(1,(vL Rect.enc n)),(5,(vL eI b)),(8,(gV h 4 a.1)),(9,(vL Run.enc a.2.1)),(10,(vI a.2.2)),(40,(vL eI b)),(41,(vI (b.length:Int))),(42,(vI (e:Int)))]:SL_)) p.1 p.2)) (λk x s=>kW b m n k x s) Ú b ((([]:List Rect),([]:List Run),0),Ø) À rfl (aI rfl) ?_ ?_
  ·rintro ⟨e,R,a,h⟩ ⟨F,y⟩
   dsimp only at F y
   cases R with
   | nil =>
    obtain rfl:=af F
    refine aj (aa (vB (decide ((e:Int)<(b.length:Int)))) (ah ?_))
    refine au (aA rfl (drop_nil y) (aS ?_))
    exact aV (a,h) rfl rfl (aI rfl)
   | cons f R =>
    obtain ⟨Ç,l,F⟩:=bind_some F
    refine aj (aa (vB (decide ((e:Int)<(b.length:Int)))) (ah ?_))
    refine au (aB rfl (bv y) (ax ?_))
    unfold kW at l
    refine au (aM (aj (aa (vI (e:Int)) (dR ko rfl rfl (bJ y) rfl wz (bN sz3 ag3 rfl (vI f) rfl wz (aa (vI (e:Int)) (aa (vI f) (ah (aj (aa .nil (ah (au (aj (aa (vI (e:Int)) (aa (vI (w64 ((e:Int)+1))) (aa (vL eI b) (bS sN rfl wz (aa (vB (decide ((w64 ((e:Int)+1))<(b.length:Int)))) (ah (NJ Run.enc 13 rfl ?_))))))))))))))))))))
    obtain ⟨B,o,l⟩:=bind_some l
    refine aP [(0,(vL Rect.enc m)),(1,(vL Rect.enc n)),(5,(vL eI b)),(8,(gV h 4 a.1)),(9,(vL Run.enc a.2.1)),(10,(vI a.2.2)),(12,(vI f)),(13,(vL Run.enc B)),(40,(vL eI b)),(41,(vI (b.length:Int))),(42,(vI (e:Int)))] [(c,none),(h,gB 4 Rect.enc a.1)] ?_ ?_
    ·rcases ak o with⟨W,o⟩|⟨W,o⟩
     ·refine aB rfl W (av (aa (vL Rect.enc m) (aa (vI f) ?_)))
      obtain ⟨ß,Ð,o⟩:=bind_some o
      refine aF (zb Ð) rfl hb96 rfl rfl rfl rfl wz (aa (vL Rect.enc n) (aa (vI f) ?_))
      obtain ⟨à,Ñ,o⟩:=bind_some o
      refine aF (zb Ñ) rfl hb96 rfl rfl rfl rfl wz ?_
      obtain ⟨Ü,Ò,o⟩:=bind_some o
      refine aF (F8 Ò) rfl hb95 rfl rfl rfl rfl wz (aa (vL Run.enc Ü) (ah ?_))
      obtain rfl:=af o
      exact cu
     ·refine aA rfl W (ax ?_)
      obtain rfl:=af o
      exact cu
    ·rintro ⟨⟩ _ Ä U z A
     refine aN _ z A (au (aj (aa (vL Run.enc a.2.1) (aa (vL Run.enc B) ?_))))
     obtain ⟨á,Ó,l⟩:=bind_some l
     refine aF (nQ Ó) rfl hb97 rfl rfl rfl rfl wz (ah ?_)
     rcases ak l with⟨X,l⟩|⟨X,l⟩
     ·refine aB rfl X (aS (av (dX (bD y È) wz rfl (aa (vI ((e+1:Nat):Int)) (ah ?_)))))
      obtain rfl:=af l
      exact aU (e+1,R,(a.1,a.2.1,a.2.2),h) ⟨F,aQ y⟩ (ls_ _) rfl (aI rfl)
     ·refine aA rfl X (ax (au (aj (aa (vL Run.enc a.2.1) (bS AL rfl wz (aa (vI 0) (ah ?_)))))))
      obtain ⟨Û,Á,l⟩:=bind_some l
      obtain ⟨Ë,Á⟩:=aW Á
      refine gH (σ:=(List Rect)) (N:=Nm) (λp=>(λ(u:List Rect) (q:Nm)=>([(0,(vL Rect.enc m)),(1,(vL Rect.enc n)),(5,(vL eI b)),(8,(gV q 4 u)),(12,(vI f)),(13,(vL Run.enc B)),(40,(vL eI b)),(41,(vI (b.length:Int))),(42,(vI (e:Int)))]:SL_)) p.1 p.2) (λp=>(λ(u:List Rect) (q:Nm)=>([(c,none),(q,gB 4 Rect.enc u)]:Hp)) p.1 p.2) (λ(I:Nat)=>(λp=>(λ(u:List Rect) (q:Nm)=>([(0,(vL Rect.enc m)),(1,(vL Rect.enc n)),(5,(vL eI b)),(8,(gV q 4 u)),(10,(vI a.2.2)),(12,(vI f)),(13,(vL Run.enc B)),(40,(vL eI b)),(41,(vI (b.length:Int))),(42,(vI (e:Int))),(62,(vL Run.enc a.2.1)),(63,(vI (a.2.1.length:Int))),(64,(vI (I:Int)))]:SL_)) p.1 p.2)) (λk x s=>nM a f k x s) Û a.2.1 (a.1,h) Á rfl (aI rfl) ?_ ?_
      ·rintro ⟨I,Â,u,q⟩ ⟨K,C⟩
       dsimp only at K C
       cases Â with
       | nil =>
        obtain rfl:=af K
        refine aj (aa (vB (decide ((I:Int)<(a.2.1.length:Int)))) (ah ?_))
        refine au (aA rfl (drop_nil C) (aS ?_))
        exact aV (u,q) rfl rfl (aI rfl)
       | cons j Â =>
        obtain ⟨Ç,Q,K⟩:=bind_some K
        refine aj (aa (vB (decide ((I:Int)<(a.2.1.length:Int)))) (ah ?_))
        refine au (aB rfl (bv C) (ax ?_))
        unfold nM at Q
        refine au (aM (aj (dR mP rfl rfl (bJ C) rfl wz (bN o9 yZ rfl (.d (.agg (Run.enc j))) rfl wz (bZ 0 (.inl rfl) z164 rfl wz (λÞ=>dY 0 il ft 2 o9 rfl rfl [(vI j.f_from),(vI j.f_to)] rfl wz (ah (av (aa (gV q 4 u) (aH mE rfl 0 rfl wz (ay 0 2 il ft sz3 ag3 rfl rfl (vI j.f_from) rfl wz (aa (vI a.2.2) (aH tZ rfl 1 rfl wz (ay 0 2 il ft sz3 ag3 rfl rfl (vI j.f_to) rfl wz (aH mE rfl 0 rfl wz (ay 0 2 il ft sz3 ag3 rfl rfl (vI j.f_from) rfl wz (aa (vI (w64 (j.f_to-j.f_from))) (aa (vI f) (aa (vI a.2.2) (aa (vI (w64 (f-a.2.2))) (aK (.d (.agg (Rect.enc (⟨j.f_from,a.2.2,(w64 (j.f_to-j.f_from)),(w64 (f-a.2.2))⟩:Rect)))) wz (by kernel_rfl) (eP (([(⟨j.f_from,a.2.2,(w64 (j.f_to-j.f_from)),(w64 (f-a.2.2))⟩:Rect)]:List Rect).map Rect.enc) Jg ez85 rfl rfl rfl rfl rfl wz ?_))))))))))))))))))))))
        obtain ⟨Æ,Õ,Q⟩:=bind_some Q
        refine kJ 0 il ft (i:=1) Mi Mi zt z84 rfl (by decide) by84 (by decide) (λ_=>rfl) rfl rfl rfl Õ wz (λÊ=>aa (gV Ê 4 Æ) (ah (av (dX (bD C Ë) wz rfl (aa (vI ((I+1:Nat):Int)) (ah ?_))))))
        obtain rfl:=af Q
        exact aU (I+1,Â,Æ,Ê) ⟨K,aQ C⟩ (ls_ _) rfl (aI rfl)
      ·rintro ⟨u,q⟩ L Ä U z A
       subst L
       refine aN _ z A (av (aa (vL Run.enc B) (aa (vI f) (aa (vL Run.enc B) (aa (vI f) (ah (av (dX (bD y È) wz rfl (aa (vI ((e+1:Nat):Int)) (ah ?_))))))))))
       obtain rfl:=af l
       exact aU (e+1,R,(u,B,f),q) ⟨F,aQ y⟩ (ls_ _) rfl (aI rfl)
  ·rintro ⟨a,h⟩ L Ä U z A
   subst L
   refine aN _ z A (aj (aa (gV h 4 a.1) (aa (gV h 4 a.1) (ah (jb 1 rfl (fC 4 1 rfl rfl (fC 8 1 rfl rfl (fC 87 1 rfl rfl ?_))))))))
   obtain rfl:=af g
   exact aC (aL [(vL Rect.enc a.1)] ⟨rfl,trivial⟩)
theorem Fx {c:(List Rect)} {r:Int} (h:vz c=some r) :
  FnM Tryz.prog 65 [(vL Rect.enc c)] [] (vI r) []:=by
 refine FnM.of_wH ⟨Tryz.prog,21,[],[]⟩ rfl Tryz.func65 rfl rfl (lb_ rfl) (by kernel_rfl) ?_
 unfold vz at h
 refine aj (aa (vI 0) (ah (aj (aa (vI 0) (ah (au (aj (aa (vL Rect.enc c) (bS DL rfl wz (aa (vI 0) (ah ?_)))))))))))
 obtain ⟨q,i,h⟩:=bind_some h
 obtain ⟨m,i⟩:=aW i
 refine cz (λ(a:Int)=>[(3,(vI a))]) (λ(a:Int)=>[]) (λ(f:Nat)=>(λ(a:Int)=>[(3,(vI a)),(6,(vL Rect.enc c)),(7,(vI (c.length:Int))),(8,(vI (f:Int)))])) (λk x s=>uy k x s) q c 0 i rfl (aI rfl) ?_ ?_
 ·rintro ⟨f,j,a⟩ ⟨g,e⟩
  dsimp only at g e
  cases j with
  | nil =>
   obtain rfl:=af g
   refine aj (aa (vB (decide ((f:Int)<(c.length:Int)))) (ah ?_))
   refine au (aA rfl (drop_nil e) (aS ?_))
   exact aV (a) rfl rfl (aI rfl)
  | cons b j =>
   obtain ⟨u,l,g⟩:=bind_some g
   refine aj (aa (vB (decide ((f:Int)<(c.length:Int)))) (ah ?_))
   refine au (aB rfl (bv e) (ax ?_))
   unfold uy at l
   refine au (aM (aj (dR Jg rfl rfl (bJ e) rfl wz (bN zt LP rfl (.d (.agg (Rect.enc b))) rfl wz (bZ 0 (.inl rfl) z84 rfl wz (λw=>dY 0 il ft 0 zt rfl rfl (Rect.v b) rfl wz (ah (av (aa (vI a) (aH JY rfl 2 rfl wz (ay 0 0 il ft sz3 ag3 rfl rfl (vI b.W) rfl wz (aH Hr rfl 3 rfl wz (ay 0 0 il ft sz3 ag3 rfl rfl (vI b.H) rfl wz (aa (vI (w64 (b.W*b.H))) (aa (vI (w64 (a+(w64 (b.W*b.H))))) (aa (vI (w64 (a+(w64 (b.W*b.H))))) (ah (av (dX (bD e m) wz rfl (aa (vI ((f+1:Nat):Int)) (ah ?_)))))))))))))))))))))
   obtain rfl:=af l
   exact aU (f+1,j,(w64 (a+(w64 (b.W*b.H))))) ⟨g,aQ e⟩ (ls_ _) rfl (aI rfl)
 ·rintro a n y t o p
  subst n
  refine aN _ o p (aj (aa (vI a) (aa (vI a) (ah ?_))))
  obtain rfl:=af h
  exact aC (aL [(vI a)] ⟨rfl,trivial⟩)
theorem Gn {c:(List Rect)} {r:Int×Int} (a:r9 c=some r) :
  FnM Tryz.prog 34 [(vL Rect.enc c)] [] (.tup [(vI r.1),(vI r.2)]) []:=by
 refine FnM.of_wH ⟨Tryz.prog,13,[],[]⟩ rfl Tryz.func34 rfl rfl (lb_ rfl) (by kernel_rfl) ?_
 unfold r9 at a
 refine aj (aa (vI 0) (aa (vI 0) (ah (au (aj (aa (vL Rect.enc c) ?_))))))
 obtain ⟨b,f,a⟩:=bind_some a
 refine aF (zf f) rfl hb64 rfl rfl rfl rfl wz (aa (vI b) (ah (aj (aa (vI b) (aa (vB (b != 0)) (ah ?_))))))
 rcases ak a with⟨d,a⟩|⟨d,a⟩
 ·refine aB rfl d (aj (aa (vI b) (aa (vI 0) (aa (vI b) (ah ?_)))))
  obtain rfl:=af a
  exact aC (aL [(vI 0),(vI b)] ⟨rfl,⟨rfl,trivial⟩⟩)
 ·refine aA rfl d (ax (aj (aa (vL Rect.enc c) ?_)))
  obtain ⟨i,g,a⟩:=bind_some a
  refine aF (DY g) rfl hb66 rfl rfl rfl rfl wz ?_
  obtain ⟨e,h,a⟩:=bind_some a
  refine aF (Fx h) rfl hb65 rfl rfl rfl rfl wz (aa (vI e) (aa (vI 0) (ah ?_)))
  obtain rfl:=af a
  exact aC (aL [(vI e),(vI 0)] ⟨rfl,⟨rfl,trivial⟩⟩)
theorem Bd {e:Entry} {c:Int} {a:Window} {r:(List Window)} (j:gG e c a=some r) :
  FnM Tryz.prog 68 [(.d (.agg (Entry.enc e))),(vI c),(.d (.agg (Window.enc a)))] [] (gV (aG 0) 2 r) (([]:List Box).map some++gO 2 Window.enc r):=by
 refine FnM.of_wH ⟨Tryz.prog,72,[],[]⟩ rfl Tryz.func68 rfl rfl (lb_ rfl) (by kernel_rfl) ?_
 unfold gG at j
 refine aj (dQ 0 (.inl rfl) (Entry.v e) rfl rfl wz (λk=>dQ 0 (.inl rfl) [(vI a.From),(vI a.To)] rfl rfl wz (λl=>aa .nil (ah (aj (aa .nil (ah (au (au ?_)))))))))
 obtain ⟨Y,u,j⟩:=bind_some j
 refine aP [(1,(vI c)),(3,(.ref k 0 0)),(5,(.ref l 0 0)),(7,.nil),(20,(vB Y))] [(k,some (.cells 13 (Entry.v e))),(l,some (.cells 2 [(vI a.From),(vI a.To)]))] ?_ ?_
 ·refine av (aH CG rfl 12 rfl wz (ay 0 0 il ft sz4 ag4 rfl rfl (vB e.Gone) rfl wz ?_))
  rcases ak u with⟨E,u⟩|⟨E,u⟩
  ·refine aD rfl E wz (ae (ae (ae (ae (ae (aa (vB true) (ah ?_)))))))
   obtain rfl:=af u
   exact cu
  ·refine aD rfl E wz (aH jB rfl 0 rfl wa (ay 0 1 il ft sz3 ag3 rfl rfl (vI a.From) rfl wa (aH kz rfl 1 rfl wa (ay 0 1 il ft sz3 ag3 rfl rfl (vI a.To) rfl wa (aK (vB (decide (a.From>=a.To))) wa rfl (aa (vB (decide (a.From>=a.To))) (ah ?_)))))))
   obtain rfl:=af u
   exact cu
 ·rintro ⟨⟩ _ I y o q
  refine aN _ o q ?_
  rcases ak j with⟨F,j⟩|⟨F,j⟩
  ·refine aB rfl F (aj (aa .nil (ah (iO (λÀ => ?_)))))
   obtain rfl:=af j
   exact aC (Lt (outs:=([]:List Box)) (.inr rfl) 2 rfl rfl rfl (by kernel_rfl) (by kernel_rfl))
  ·refine aA rfl F (ax (aj (aH jB rfl 0 rfl wz (ay 0 1 il ft sz3 ag3 rfl rfl (vI a.From) rfl wz (aa (vI c) (aa (vI (w64 (c*60000))) (aa (vI (w64 (a.From+(w64 (c*60000))))) (aa (vI (w64 ((w64 (a.From+(w64 (c*60000)))).tdiv 86400000))) (aa (vI (w64 ((w64 ((w64 (a.From+(w64 (c*60000)))).tdiv 86400000))-2))) (aa (vI (w64 ((w64 ((w64 (a.From+(w64 (c*60000)))).tdiv 86400000))-2))) (ah (aj (aH kz rfl 1 rfl wz (ay 0 1 il ft sz3 ag3 rfl rfl (vI a.To) rfl wz (aa (vI c) (aa (vI (w64 (c*60000))) (aa (vI (w64 (a.To+(w64 (c*60000))))) (aa (vI (w64 ((w64 (a.To+(w64 (c*60000)))).tdiv 86400000))) (aa (vI (w64 ((w64 ((w64 (a.To+(w64 (c*60000)))).tdiv 86400000))+1))) (aa (vI (w64 ((w64 ((w64 (a.To+(w64 (c*60000)))).tdiv 86400000))+1))) (ah (au (aj ?_)))))))))))))))))))))))
   refine aa (vI (w64 ((w64 ((w64 (a.From+(w64 (c*60000)))).tdiv 86400000))-2))) (aH yf rfl 3 rfl wz (ay 0 0 il ft sz3 ag3 rfl rfl (vI e.First) rfl wz (si (vI (ol (w64 ((w64 ((w64 (a.From+(w64 (c*60000)))).tdiv 86400000))-2)) e.First)) rfl (.inr rfl) wz (aa (vI (ol (w64 ((w64 ((w64 (a.From+(w64 (c*60000)))).tdiv 86400000))-2)) e.First)) (ah (iO (λR => ?_)))))))
   obtain ⟨U,G,j⟩:=bind_some j
   obtain ⟨T,G⟩:=dJ G
   refine zh (σ:=(List Window)×Int) (N:=Nm) (λp=>(λ(b:(List Window)×Int) (g:Nm)=>([(7,(gV g 2 b.1))]:SL_)) p.1 p.2) (λp=>(λ(b:(List Window)×Int) (g:Nm)=>([(k,some (.cells 13 (Entry.v e))),(l,some (.cells 2 [(vI a.From),(vI a.To)])),(g,gB 2 Window.enc b.1)]:Hp)) p.1 p.2) (λ(w:Nat)=>(λp=>(λ(b:(List Window)×Int) (g:Nm)=>([(1,(vI c)),(3,(.ref k 0 0)),(5,(.ref l 0 0)),(7,(gV g 2 b.1)),(9,(vI (w64 ((w64 ((w64 (a.To+(w64 (c*60000)))).tdiv 86400000))+1)))),(10,(vI b.2))]:SL_)) p.1 p.2)) (λs=>eB a c e s) U T ((([]:List Window),(ol (w64 ((w64 ((w64 (a.From+(w64 (c*60000)))).tdiv 86400000))-2)) e.First)),R) G rfl (aI rfl) ?_ ?_
   ·rintro ⟨w,b,g⟩ m
    dsimp only at m
    cases w with
    | zero=>cases m
    | succ w =>
     obtain ⟨Z,f,m⟩:=bind_some m
     unfold eB at f
     refine au (aj (aa (vI b.2) (aa (vI (w64 ((w64 ((w64 (a.To+(w64 (c*60000)))).tdiv 86400000))+1))) (aH xM rfl 4 rfl wz (ay 0 0 il ft sz3 ag3 rfl rfl (vI e.Last) rfl wz (si (vI (u7 (w64 ((w64 ((w64 (a.To+(w64 (c*60000)))).tdiv 86400000))+1)) e.Last)) rfl (.inl rfl) wz (aa (vB (decide (b.2<=(u7 (w64 ((w64 ((w64 (a.To+(w64 (c*60000)))).tdiv 86400000))+1)) e.Last)))) (ah ?_))))))))
     rcases ak f with⟨z,f⟩|⟨z,f⟩
     ·refine aB rfl z (ax (au (aM (au (aj (ay 0 0 il ft kH qx rfl rfl (.d (.agg (Entry.enc e))) rfl wz (aa (vI b.2) ?_)))))))
      obtain ⟨W,O,f⟩:=bind_some f
      refine aF (vH O) rfl hb98 rfl rfl rfl rfl wz (aa (vB (!W)) (ah ?_))
      rcases ak f with⟨A,f⟩|⟨A,f⟩
      ·refine aB rfl A (aS (av (aa (vI b.2) (aa (vI (w64 (b.2+1))) (aa (vI (w64 (b.2+1))) (ah ?_))))))
       obtain rfl:=af f
       exact aU (w,(b.1,(w64 (b.2+1))),g) m (ls_ _) rfl (aI rfl)
      ·refine aA rfl A (ax (aj (ay 0 0 il ft kH qx rfl rfl (.d (.agg (Entry.enc e))) rfl wz (aa (vI c) (aa (vI b.2) ?_)))))
       obtain ⟨h,P,f⟩:=bind_some f
       refine aF (uL P) rfl hb99 rfl rfl rfl rfl wz (bZ 0 (.inl rfl) z46 rfl wz (λH=>dY 0 il ft 3 mM rfl rfl [(vI h.From),(vI h.To)] rfl wz (ah (au ?_))))
       obtain ⟨X,t,f⟩:=bind_some f
       refine aP [(1,(vI c)),(3,(.ref k 0 0)),(5,(.ref l 0 0)),(7,(gV g 2 b.1)),(9,(vI (w64 ((w64 ((w64 (a.To+(w64 (c*60000)))).tdiv 86400000))+1)))),(10,(vI b.2)),(11,(.ref H 0 0)),(66,(vB X))] [(k,some (.cells 13 (Entry.v e))),(l,some (.cells 2 [(vI a.From),(vI a.To)])),(g,gB 2 Window.enc b.1),(H,some (.cells 2 [(vI h.From),(vI h.To)]))] ?_ ?_
       ·refine av (aH jB rfl 0 rfl wz (ay 0 3 il ft sz3 ag3 rfl rfl (vI h.From) rfl wz (aH kz rfl 1 rfl wz (ay 0 1 il ft sz3 ag3 rfl rfl (vI a.To) rfl wz (aa (vB (decide (h.From<a.To))) ?_)))))
        rcases ak t with⟨B,t⟩|⟨B,t⟩
        ·refine aD rfl B wz (aH kz rfl 1 rfl wa (ay 0 3 il ft sz3 ag3 rfl rfl (vI h.To) rfl wa (aH jB rfl 0 rfl wa (ay 0 1 il ft sz3 ag3 rfl rfl (vI a.From) rfl wa (aK (vB (decide (h.To>a.From))) wa rfl (aa (vB (decide (h.To>a.From))) (ah ?_)))))))
         obtain rfl:=af t
         exact cu
        ·refine aD rfl B wz (ae (ae (ae (ae (ae (aa (vB false) (ah ?_)))))))
         obtain rfl:=af t
         exact cu
       ·rintro ⟨⟩ _ I y o q
        refine aN _ o q ?_
        obtain ⟨J,n,f⟩:=bind_some f
        refine lG (β:=Nm) (λ(x:Nm)=>([(1,(vI c)),(3,(.ref k 0 0)),(5,(.ref l 0 0)),(7,(gV x 2 J)),(9,(vI (w64 ((w64 ((w64 (a.To+(w64 (c*60000)))).tdiv 86400000))+1)))),(10,(vI b.2))]:SL_)) (λ(x:Nm)=>([(k,some (.cells 13 (Entry.v e))),(l,some (.cells 2 [(vI a.From),(vI a.To)])),(x,gB 2 Window.enc J),(H,some (.cells 2 [(vI h.From),(vI h.To)]))]:Hp)) (λ_=>True) ?_ ?_
        ·rcases ak n with⟨C,n⟩|⟨C,n⟩
         ·refine aB rfl C (av (aa (gV g 2 b.1) (ay 0 3 il ft mM tK rfl rfl (.d (.agg (Window.enc h))) rfl wz (eP (([h]:List Window).map Window.enc) OB ez86 rfl rfl rfl rfl rfl wz ?_))))
          obtain ⟨L,Q,n⟩:=bind_some n
          refine kJ 0 il ft (i:=2) el86 el86 mM z46 rfl (by decide) by46 (by decide) (λ_=>rfl) rfl rfl rfl Q wz (λK=>aa (gV K 2 L) (ah ?_))
          obtain rfl:=af n
          exact aV K trivial rfl (aI rfl)
         ·refine aA rfl C (ax ?_)
          obtain rfl:=af n
          exact aV g trivial rfl (aI rfl)
        ·rintro x _ I y o q
         refine aN _ o q (av (aa (vI b.2) (aa (vI (w64 (b.2+1))) (aa (vI (w64 (b.2+1))) (ah ?_)))))
         obtain rfl:=af f
         exact aU (w,(J,(w64 (b.2+1))),x) m (ls_ _) rfl (aI rfl)
     ·refine aA rfl z (aS ?_)
      obtain rfl:=af f
      obtain rfl:=af m
      exact aV ((b.1,b.2),g) rfl rfl (aI rfl)
   ·rintro ⟨b,g⟩ M I y o q
    subst M
    refine aN _ o q (aj (aa (gV g 2 b.1) (aa (gV g 2 b.1) (ah ?_))))
    obtain rfl:=af j
    exact aC (Lt (outs:=([]:List Box)) (.inr rfl) 2 rfl rfl rfl (by kernel_rfl) (by kernel_rfl))
theorem Co {h:Entry} {q:Int} {g:Window} {r:(List Window)×Int} (a:mV h q g=some r) :
  FnM Tryz.prog 35 [(.d (.agg (Entry.enc h))),(vI q),(.d (.agg (Window.enc g)))] [] (.tup [(vL Window.enc r.1),(vI r.2)]) []:=by
 refine FnM.of_wH ⟨Tryz.prog,45,[],[]⟩ rfl Tryz.func35 rfl rfl (lb_ rfl) (by kernel_rfl) ?_
 unfold mV at a
 refine aj (dQ 0 (.inl rfl) (Entry.v h) rfl rfl wz (λE=>dQ 0 (.inl rfl) [(vI g.From),(vI g.To)] rfl rfl wz (λA=>aa .nil (aa (vI 0) (ah (au (aj (ay 0 0 il ft kH qx rfl rfl (.d (.agg (Entry.enc h))) rfl wz (eP (([h]:List Entry).map Entry.enc) yX ez26 rfl rfl rfl rfl rfl wz ?_)))))))))
 obtain ⟨l,N,a⟩:=bind_some a
 refine aF (iW N) rfl hb22 rfl rfl rfl rfl wz (aa (vI l) (ah (aj (aa (vI l) (aa (vB (l != 0)) (ah ?_))))))
 rcases ak a with⟨w,a⟩|⟨w,a⟩
 ·refine aB rfl w (aj (aa (vI l) (aa .nil (aa (vI l) (ah ?_)))))
  obtain rfl:=af a
  exact aC (aL [.nil,(vI l)] ⟨rfl,⟨rfl,trivial⟩⟩)
 ·refine aA rfl w (ax (au (aj (aa (vI q) ?_))))
  obtain ⟨X,J,a⟩:=bind_some a
  refine aF (bH J) rfl tT rfl rfl rfl rfl wz (ah ?_)
  rcases ak a with⟨t,a⟩|⟨t,a⟩
  ·refine aB rfl t (aj (aa .nil (aa (vI 1) (ah ?_))))
   obtain rfl:=af a
   exact aC (aL [.nil,(vI 1)] ⟨rfl,⟨rfl,trivial⟩⟩)
  ·refine aA rfl t (ax (au (aj (ay 0 1 il ft mM tK rfl rfl (.d (.agg (Window.enc g))) rfl wz ?_))))
   obtain ⟨j,K,a⟩:=bind_some a
   refine aF (pg K) rfl hb53 rfl rfl rfl rfl wz (aa (vI j) (ah (aj (aa (vI j) (aa (vB (j != 0)) (ah ?_))))))
   rcases ak a with⟨u,a⟩|⟨u,a⟩
   ·refine aB rfl u (aj (aa (vI j) (aa .nil (aa (vI j) (ah ?_)))))
    obtain rfl:=af a
    exact aC (aL [.nil,(vI j)] ⟨rfl,⟨rfl,trivial⟩⟩)
   ·refine aA rfl u (ax (aj (ay 0 0 il ft kH qx rfl rfl (.d (.agg (Entry.enc h))) rfl wz (aa (vI q) (ay 0 1 il ft mM tK rfl rfl (.d (.agg (Window.enc g))) rfl wz ?_)))))
    obtain ⟨i,L,a⟩:=bind_some a
    refine EW [] (Bd L) rfl hb68 rfl (by kernel_rfl) (by kernel_rfl) (by kernel_rfl) (by kernel_rfl) (by kernel_rfl) rfl (by decide) (by kernel_rfl) wz ([(E,some (.cells 13 (Entry.v h))),(A,some (.cells 2 [(vI g.From),(vI g.To)]))]:Hp) (λ_=>by kernel_rfl) (λf=>aa (gV f 2 i) (ah (au (aj (aa (gV f 2 i) (BC un86 rfl wz (aa (vI 0) (ah ?_))))))))
    obtain ⟨Q,y,a⟩:=bind_some a
    obtain ⟨F,y⟩:=aW y
    refine cz (λ(b:List Window)=>[(10,(gV f 2 b))]) (λ(b:List Window)=>[(E,some (.cells 13 (Entry.v h))),(A,some (.cells 2 [(vI g.From),(vI g.To)])),(f,gB 2 Window.enc b)]) (λ(c:Nat)=>(λ(b:List Window)=>[(5,(.ref A 0 0)),(10,(gV f 2 b)),(30,(gV f 2 b)),(31,(vI (i.length:Int))),(32,(vI (c:Int)))])) (λk x s=>mH g k x s) Q (List.range ((i.length:Int)).toNat) i y rfl (aI rfl) ?_ ?_
    ·rintro ⟨c,z,b⟩ ⟨n,m⟩
     dsimp only at n m
     cases z with
     | nil =>
      obtain rfl:=af n
      refine aj (aa (vB (decide ((c:Int)<(i.length:Int)))) (ah ?_))
      refine au (aA rfl (nO m) (aS ?_))
      exact aV (b) rfl rfl (aI rfl)
     | cons Z z =>
      obtain ⟨T,e,n⟩:=bind_some n
      refine aj (aa (vB (decide ((c:Int)<(i.length:Int)))) (ah ?_))
      refine au (aB rfl (lu m) (ax ?_))
      unfold mH at e
      refine au (aM (aj (aa (vI (c:Int)) ?_)))
      obtain ⟨_,B,e⟩:=bind_some e
      refine uw OB rfl rfl (jM B) (gK B) wz ?_
      obtain ⟨p,O,e⟩:=bind_some e
      refine nI 0 2 il ft mM tK rfl rfl O (.d (.agg (Window.enc p))) rfl wz (bZ 0 (.inl rfl) z46 rfl wz (λW=>aa (vI (c:Int)) (dY 0 il ft 3 mM rfl rfl [(vI p.From),(vI p.To)] rfl wz (ah (av (aa (gV f 2 b) (aa (vI (c:Int)) (ay 0 3 il ft mM tK rfl rfl (.d (.agg (Window.enc p))) rfl wz (ay 0 1 il ft mM tK rfl rfl (.d (.agg (Window.enc g))) rfl wz ?_)))))))))
      obtain ⟨o,M,e⟩:=bind_some e
      refine aF (yE M) rfl hb69 rfl rfl rfl rfl wz ?_
      obtain ⟨_,C,e⟩:=bind_some e
      refine uw OB rfl rfl (jM C) (gK C) wz ?_
      obtain ⟨U,P,e⟩:=bind_some e
      refine A7 0 il ft 2 mM rfl rfl P o rfl wz (eU (v':=(gV f 2 (b.set (0+((c:Int)).toNat) o))) 10 rfl (ja (by simp)) (eU (v':=(gV f 2 (b.set (0+((c:Int)).toNat) o))) 30 rfl (ja (by simp)) (eU (v':=(gV f 2 (b.set (0+((c:Int)).toNat) o))) 37 rfl (ja (by simp)) (ah (av (dX (nR m F) wz rfl (aa (vI ((c+1:Nat):Int)) (ah ?_))))))))
      obtain rfl:=af e
      exact aU (c+1,z,(b.set (0+((c:Int)).toNat) o)) ⟨n,aQ m⟩ (ls_ _) rfl (aI rfl)
    ·rintro b G Y R H I
     subst G
     refine aN _ H I (aj (aa (gV f 2 b) (aa (gV f 2 b) (aa (vI 0) (ah (jb 2 rfl (fC 6 2 rfl rfl (fC 10 2 rfl rfl (fC 44 2 rfl rfl ?_)))))))))
     obtain rfl:=af a
     exact aC (aL [(vL Window.enc b),(vI 0)] ⟨rfl,⟨rfl,trivial⟩⟩)
theorem Cx {a:Window} {r:Bool} (c:pV a=some r) :
  FnM Tryz.prog 100 [(.d (.agg (Window.enc a)))] [] (vB r) []:=by
 refine FnM.of_wH ⟨Tryz.prog,18,[],[]⟩ rfl Tryz.func100 rfl rfl (lb_ rfl) (by kernel_rfl) ?_
 unfold pV at c
 refine aj (dQ 0 (.inl rfl) [(vI a.From),(vI a.To)] rfl rfl wz (λj=>aa (vB false) (ah (au ?_))))
 obtain ⟨g,b,c⟩:=bind_some c
 refine aP [(2,(vB g))] [(j,some (.cells 2 [(vI a.From),(vI a.To)]))] ?_ ?_
 ·refine av (aH jB rfl 0 rfl wz (ay 0 0 il ft sz3 ag3 rfl rfl (vI a.From) rfl wz (aa (vB (decide (a.From>=0))) ?_)))
  rcases ak b with⟨e,b⟩|⟨e,b⟩
  ·refine aD rfl e wz (aH jB rfl 0 rfl wa (ay 0 0 il ft sz3 ag3 rfl rfl (vI a.From) rfl wa (aH kz rfl 1 rfl wa (ay 0 0 il ft sz3 ag3 rfl rfl (vI a.To) rfl wa (aK (vB (decide (a.From<a.To))) wa rfl (aa (vB (decide (a.From<a.To))) ?_))))))
   rcases ak b with⟨f,b⟩|⟨f,b⟩
   ·refine aD rfl f wz (aH kz rfl 1 rfl wa (ay 0 0 il ft sz3 ag3 rfl rfl (vI a.To) rfl wa (aK (vB (decide (a.To<=345686400000))) wa rfl (aa (vB (decide (a.To<=345686400000))) (aa (vB (decide (a.To<=345686400000))) (ah ?_))))))
    obtain rfl:=af b
    exact cu
   ·refine aD rfl f wz (ae (ae (ae (aa (vB false) (aa (vB false) (ah ?_))))))
    obtain rfl:=af b
    exact cu
  ·refine aD rfl e wz (ae (ae (ae (ae (ae (aa (vB false) (aa (vB false) (ae (ae (ae (aa (vB false) (aa (vB false) (ah ?_)))))))))))))
   obtain rfl:=af b
   exact cu
 ·rintro ⟨⟩ _ l k h i
  refine aN _ h i ?_
  obtain rfl:=af c
  exact aC (aL [(vB g)] ⟨rfl,trivial⟩)
theorem zJ {b:(List ByteArray)} {r:Int} (a:j4 b=some r) :
  FnM Tryz.prog 101 [(vL eS b)] [] (vI r) []:=by
 refine FnM.of_wH ⟨Tryz.prog,8,[],[]⟩ rfl Tryz.func101 rfl rfl (lb_ rfl) (by kernel_rfl) ?_
 unfold j4 at a
 refine aj (aa (vI 0) (ah (au (aj (aa (vL eS b) (bS yz rfl wz (aa (vB (decide ((b.length:Int)>20))) (ah ?_))))))))
 rcases ak a with⟨c,a⟩|⟨c,a⟩
 ·refine aB rfl c (aj (aa (vI 2) (ah ?_)))
  obtain rfl:=af a
  exact aC (aL [(vI 2)] ⟨rfl,trivial⟩)
 ·refine aA rfl c (ax (aj (aa (vL eS b) ?_)))
  obtain ⟨d,e,a⟩:=bind_some a
  refine aF (uV e) rfl hb110 rfl rfl rfl rfl wz (aa (vI d) (ah ?_))
  obtain rfl:=af a
  exact aC (aL [(vI d)] ⟨rfl,trivial⟩)
end Go.Proofs.YtadpbmfnnlkdlabGreatDoor.Law

