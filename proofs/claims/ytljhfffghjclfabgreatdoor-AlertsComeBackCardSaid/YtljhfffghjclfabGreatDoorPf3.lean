/-
 The machine computes these plain functions (written by a program of ours).
-/
import Derived.Test.YtljhfffghjclfabGreatDoorFacts
import Derived.Test.YtljhfffghjclfabGreatDoorDefs
import Derived.Test.YtljhfffghjclfabGreatDoorPf2
import Derived.Test.YtljhfffghjclfabGreatDoorShelf
open Go Go.Eng Go.Proofs
namespace Go.Proofs.YtljhfffghjclfabGreatDoor.Law
set_option maxRecDepth 100000
set_option linter.unusedVariables false
set_option maxHeartbeats 1000000
theorem ze {u:ByteArray} {r:(List Alert)×Int×Int} (c:lK u=some r) :
  FnM Tryz.prog 6 [(vS u)] [] (.tup [(vL Alert.enc r.1),(vI r.2.1),(vI r.2.2)]) []:=by
 refine FnM.of_wH ⟨Tryz.prog,56,[],[]⟩ rfl Tryz.func6 rfl rfl (lb_ rfl) (by kernel_rfl) ?_
 unfold lK at c
 refine ai (aa .nil (aa (vI 0) (aa (vI 0) (af (ak (ai (aa (vS u) (oK un9 rfl wz (aa (vB (decide ((u.size:Int)>200000))) (af ?_))))))))))
 rcases aj c with⟨v,c⟩|⟨v,c⟩
 ·refine aB rfl v (ai (aa .nil (aa (vI 0) (aa (vI 2) (af ?_)))))
  obtain rfl:=ae c
  exact ay (aK [.nil,(vI 0),(vI 2)] ⟨rfl,⟨rfl,⟨rfl,trivial⟩⟩⟩)
 ·refine aA rfl v (ax (ai (aa (vS u) ?_)))
  obtain ⟨a,M,c⟩:=bind_some c
  refine aD (Iw M) rfl hb24 rfl rfl rfl rfl wz (aa (.tup [(vL eS a.1),(vB a.2)]) (aa (vL eS a.1) (aa (vB a.2) (aa (vL eS a.1) (aa (vB a.2) (af (ai (aa .nil (af (ak (ai (aa (vL eS a.1) (bL ru rfl wz (aa (vI 0) (af (mR (λO=>mR (λP=>mR (λQ => ?_)))))))))))))))))))
  obtain ⟨R,B,c⟩:=bind_some c
  obtain ⟨I,B⟩:=aZ B
  refine iq (σ:=(List Alert)) (N:=Nm×Nm×Nm) (λp=>(λ(e:List Alert) (f:Nm) (j:Nm) (l:Nm)=>([(7,(gV f 9 e))]:SL_)) p.1 p.2.1 p.2.2.1 p.2.2.2) (λp=>(λ(e:List Alert) (f:Nm) (j:Nm) (l:Nm)=>([(f,Alert.al.box e j l),(j,gB 1 eS (dw Alert.Refs e)),(l,gB 4 Rect.enc (dw Alert.Areas e))]:Hp)) p.1 p.2.1 p.2.2.1 p.2.2.2) (λ(d:Nat)=>(λp=>(λ(e:List Alert) (f:Nm) (j:Nm) (l:Nm)=>([(5,(vL eS a.1)),(6,(vB a.2)),(7,(gV f 9 e)),(21,(vL eS a.1)),(22,(vI (a.1.length:Int))),(23,(vI (d:Int)))]:SL_)) p.1 p.2.1 p.2.2.1 p.2.2.2)) (λk x s=>fA a k x s) R a.1 (([]:List Alert),O,P,Q) B rfl (aJ rfl) ?_ ?_
  ·rintro ⟨d,F,e,f,j,l⟩ ⟨n,m⟩
   dsimp only at n m
   cases F with
   | nil =>
    obtain rfl:=ae n
    refine ai (aa (vB (decide ((d:Int)<(a.1.length:Int)))) (af ?_))
    refine ak (aA rfl (drop_nil m) (bg ?_))
    exact aY (e,f,j,l) rfl rfl (aJ rfl)
   | cons G F =>
    obtain ⟨W,g,n⟩:=bind_some n
    refine ai (aa (vB (decide ((d:Int)<(a.1.length:Int)))) (af ?_))
    refine ak (aB rfl (bz m) (ax ?_))
    unfold fA at g
    refine ak (aM (ai (aa (vI (d:Int)) (dC mI rfl rfl (bI m) rfl wz (bC sz9 ag9 rfl (vS G) rfl wz (aa (vI (d:Int)) (aa (vS G) (af (ai (aa (gV f 9 e) (aa (vS G) ?_)))))))))))
    obtain ⟨b,K,g⟩:=bind_some g
    refine Rp Alert.al [] 0 1 2 (AC K) (λ_ _=>rfl) (λ_ _ h_=>al_ro h_) (λ_=>rfl) (λ_ _=>rfl) (λ_ _ _=>rfl) (cd_fn rfl hb25) rfl rfl rfl rfl rfl (by decide) (λ_ _ _=>rfl) (λ_ _ _=>rfl) (λ_ h_=>al_n h_) (λ_ _ h_=>al_a h_) (λ_ h_ _=>al_o h_) wz (λh q t=>h_eqH (H0:=([(f,none),(j,none),(l,none),(h,Alert.al.box b.1 q t),(q,gB 1 eS (dw Alert.Refs b.1)),(t,gB 4 Rect.enc (dw Alert.Areas b.1))]:Hp)) rfl (gD (v':=(.tup [(gV h 9 b.1),(vB b.2)])) 31 rfl rfl (aa (.tup [(gV h 9 b.1),(vB b.2)]) (aa (gV h 9 b.1) (aa (vB b.2) (aa (gV h 9 b.1) (aa (vB b.2) (af (ak (ak ?_))))))))))
    obtain ⟨U,i,g⟩:=bind_some g
    refine aP [(5,(vL eS a.1)),(6,(vB a.2)),(8,(vI (d:Int))),(10,(gV h 9 b.1)),(21,(vL eS a.1)),(22,(vI (a.1.length:Int))),(23,(vI (d:Int))),(46,(vB U))] [(f,none),(j,none),(l,none),(h,Alert.al.box b.1 q t),(q,gB 1 eS (dw Alert.Refs b.1)),(t,gB 4 Rect.enc (dw Alert.Areas b.1))] ?_ ?_
    ·refine av (aa (vB b.2) (aa (vB (!b.2)) ?_))
     rcases aj i with⟨w,i⟩|⟨w,i⟩
     ·refine aC rfl w wz (ah (ah (ah (bR (wn rfl rfl) (bR (wn rfl rfl) (bR (wn rfl rfl) (bR (wn rfl rfl) (bR (wn rfl rfl) (ah (aa (vB true) (af ?_)))))))))))
      obtain rfl:=ae i
      exact cu
     ·refine aC rfl w wz (aI (vB a.2) wa rfl (aI (vB (!a.2)) wa rfl ?_))
      rcases aj i with⟨y,i⟩|⟨y,i⟩
      ·refine aC rfl y wa (aI (vI (d:Int)) wa rfl (aI (vL eS a.1) wa rfl (bL ru rfl wa (aI (vI (w64 ((a.1.length:Int)-1))) wa rfl (aI (vB ((d:Int)==(w64 ((a.1.length:Int)-1)))) wa rfl (aI (vB ((d:Int)==(w64 ((a.1.length:Int)-1)))) wa rfl (aa (vB ((d:Int)==(w64 ((a.1.length:Int)-1)))) (af ?_))))))))
       obtain rfl:=ae i
       exact cu
      ·refine aC rfl y wa (ah (ah (ah (ah (ah (aI (vB false) wa rfl (aa (vB false) (af ?_))))))))
       obtain rfl:=ae i
       exact cu
    ·rintro ⟨⟩ _ T H C E
     refine aN _ C E ?_
     rcases aj g with⟨z,g⟩|⟨z,g⟩
     ·refine aB rfl z (ai (aa (vI (d:Int)) (aa .nil (aa (vI (d:Int)) (aa (vI 9) (af ?_))))))
      obtain rfl:=ae g
      obtain rfl:=ae n
      obtain rfl:=ae c
      exact ay (aK [.nil,(vI (d:Int)),(vI 9)] ⟨rfl,⟨rfl,⟨rfl,trivial⟩⟩⟩)
     ·refine aA rfl z (ax (av (aa (gV h 9 b.1) (aa (gV h 9 b.1) (af (av (fC (bG m I) wz rfl (aa (vI ((d+1:Nat):Int)) (af ?_)))))))))
      obtain rfl:=ae g
      exact bf (d+1,F,b.1,h,q,t) ⟨n,aW m⟩ (ls_ _) rfl (pre_is [3,4,5] (by decide) rfl)
  ·rintro ⟨e,f,j,l⟩ J T H C E
   subst J
   refine aN _ C E (ak (ak (Qr Alert.al 0 1 2 rfl rfl rfl (by decide) (ig 0 rfl (fT 7 0 rfl rfl (av (aa (vL Alert.enc e) ?_)))))))
   obtain ⟨o,L,c⟩:=bind_some c
   refine aD (lT L) rfl hb18 rfl rfl rfl rfl wz (aa (vI o) (af (ai (aa (vI o) (aa (vB (o != 0)) (af ?_))))))
   rcases aj c with⟨A,c⟩|⟨A,c⟩
   ·refine aB rfl A (ai (aa (vI o) (aa .nil (aa (vI 0) (aa (vI o) (af ?_))))))
    obtain rfl:=ae c
    exact ay (aK [.nil,(vI 0),(vI o)] ⟨rfl,⟨rfl,⟨rfl,trivial⟩⟩⟩)
   ·refine aA rfl A (ax (ai (aa (vL Alert.enc e) (aa (vL Alert.enc e) (aa (vI 0) (aa (vI 0) (af ?_)))))))
    obtain rfl:=ae c
    exact ay (aK [(vL Alert.enc e),(vI 0),(vI 0)] ⟨rfl,⟨rfl,⟨rfl,trivial⟩⟩⟩)
theorem AA {r:(List ByteArray)} (a:oG  = some r) :
  FnM Tryz.prog 46 [] [] (vL eS r) []:=by
 refine FnM.of_wH ⟨Tryz.prog,2,[],[]⟩ rfl Tryz.func46 rfl rfl (lb_ rfl) (by kernel_rfl) ?_
 unfold oG at a
 refine ai (aa .nil (af (ai (eD (([(⟨#[]⟩:ByteArray),(⟨#[110,101,119]⟩:ByteArray),(⟨#[117,112,100,97,116,101]⟩:ByteArray),(⟨#[99,97,110,99,101,108]⟩:ByteArray)]:List ByteArray).map eS) mI DD rfl rfl rfl rfl rfl wz (aa (vL eS ([(⟨#[]⟩:ByteArray),(⟨#[110,101,119]⟩:ByteArray),(⟨#[117,112,100,97,116,101]⟩:ByteArray),(⟨#[99,97,110,99,101,108]⟩:ByteArray)]:List ByteArray)) (af ?_))))))
 obtain rfl:=ae a
 exact ay (aK [(vL eS ([(⟨#[]⟩:ByteArray),(⟨#[110,101,119]⟩:ByteArray),(⟨#[117,112,100,97,116,101]⟩:ByteArray),(⟨#[99,97,110,99,101,108]⟩:ByteArray)]:List ByteArray))] ⟨rfl,trivial⟩)
theorem Dm {x0:(List ByteArray)} {x1:ByteArray} {r:ByteArray} (a:strings_Join x0 x1=some r) :
  FnM Tryz.prog 86 [(vL eS x0),(vS x1)] [] (vS r) [] :=
 join_ok rfl Tryz.strings_Join_none Tryz.strings_Join a
theorem xk {c:(List Int)} {r:ByteArray} (e:lH c=some r) :
  FnM Tryz.prog 47 [(vL eI c)] [] (vS r) []:=by
 refine FnM.of_wH ⟨Tryz.prog,20,[],[]⟩ rfl Tryz.func47 rfl rfl (lb_ rfl) (by kernel_rfl) ?_
 unfold lH at e
 refine ai (aa (vS (⟨#[]⟩:ByteArray)) (af (ai (aa .nil (af (ak (ai (aa (vL eI c) (bL wW rfl wz (aa (vI 0) (af (mR (λB => ?_)))))))))))))
 obtain ⟨C,j,e⟩:=bind_some e
 obtain ⟨t,j⟩:=aZ j
 refine iq (σ:=(List ByteArray)) (N:=Nm) (λp=>(λ(a:List ByteArray) (b:Nm)=>([(3,(gV b 1 a))]:SL_)) p.1 p.2) (λp=>(λ(a:List ByteArray) (b:Nm)=>([(b,gB 1 eS a)]:Hp)) p.1 p.2) (λ(g:Nat)=>(λp=>(λ(a:List ByteArray) (b:Nm)=>([(3,(gV b 1 a)),(6,(vL eI c)),(7,(vI (c.length:Int))),(8,(vI (g:Int)))]:SL_)) p.1 p.2)) (λk x s=>jR k x s) C c (([]:List ByteArray),B) j rfl (aJ rfl) ?_ ?_
 ·rintro ⟨g,l,a,b⟩ ⟨h,d⟩
  dsimp only at h d
  cases l with
  | nil =>
   obtain rfl:=ae h
   refine ai (aa (vB (decide ((g:Int)<(c.length:Int)))) (af ?_))
   refine ak (aA rfl (drop_nil d) (bg ?_))
   exact aY (a,b) rfl rfl (aJ rfl)
  | cons m l =>
   obtain ⟨G,f,h⟩:=bind_some h
   refine ai (aa (vB (decide ((g:Int)<(c.length:Int)))) (af ?_))
   refine ak (aB rfl (bz d) (ax ?_))
   unfold jR at f
   refine ak (aM (ai (dC lG rfl rfl (bI d) rfl wz (bC sz3 ag3 rfl (vI m) rfl wz (aa (vI m) (af (av (aa (gV b 1 a) (aa (vI m) ?_)))))))))
   obtain ⟨E,y,f⟩:=bind_some f
   refine aD (wP y) rfl hb40 rfl rfl rfl rfl wz (eD (([E]:List ByteArray).map eS) mI DD rfl rfl rfl rfl rfl wz ?_)
   obtain ⟨n,A,f⟩:=bind_some f
   refine kY 0 il ft (i:=0) Ox Ox sz9 z9 rfl (by decide) by9 (by decide) (λ_=>rfl) rfl rfl rfl A wz (λo=>aa (gV o 1 n) (af (av (fC (bG d t) wz rfl (aa (vI ((g+1:Nat):Int)) (af ?_))))))
   obtain rfl:=ae f
   exact bf (g+1,l,n,o) ⟨h,aW d⟩ (ls_ _) rfl (aJ rfl)
 ·rintro ⟨a,b⟩ u H F v w
  subst u
  refine aN _ v w (ak (ig 0 rfl (fT 3 0 rfl rfl (av (aa (vL eS a) ?_)))))
  obtain ⟨q,z,e⟩:=bind_some e
  refine aD (Dm z) rfl hb86 rfl rfl rfl rfl wz (aa (vS q) (af ?_))
  obtain rfl:=ae e
  exact ay (aK [(vS q)] ⟨rfl,trivial⟩)
theorem oN {c:(List Alert)} {r:ByteArray} (E:ji c=some r) :
  FnM Tryz.prog 26 [(vL Alert.enc c)] [] (vS r) []:=by
 refine FnM.of_wH ⟨Tryz.prog,89,[],[]⟩ rfl Tryz.func26 rfl rfl (lb_ rfl) (by kernel_rfl) ?_
 unfold ji at E
 refine ai (aa (vS (⟨#[]⟩:ByteArray)) (af (ai (aa (vS (⟨#[]⟩:ByteArray)) (af (ak (ai (aa (vL Alert.enc c) (bL zI rfl wz (aa (vI 0) (af ?_)))))))))))
 obtain ⟨Ú,I,E⟩:=bind_some E
 obtain ⟨Â,I⟩:=aZ I
 refine dh (λ(g:ByteArray)=>[(3,(vS g))]) (λ(g:ByteArray)=>[]) (λ(e:Nat)=>(λ(g:ByteArray)=>[(3,(vS g)),(10,(vL Alert.enc c)),(11,(vI (c.length:Int))),(12,(vI (e:Int)))])) (λk x s=>iE k x s) Ú c (⟨#[]⟩:ByteArray) I rfl (aJ rfl) ?_ ?_
 ·rintro ⟨e,L,g⟩ ⟨B,t⟩
  dsimp only at B t
  cases L with
  | nil =>
   obtain rfl:=ae B
   refine ai (aa (vB (decide ((e:Int)<(c.length:Int)))) (af ?_))
   refine ak (aA rfl (drop_nil t) (bg ?_))
   exact aY (g) rfl rfl (aJ rfl)
  | cons b L =>
   obtain ⟨R,a,B⟩:=bind_some B
   refine ai (aa (vB (decide ((e:Int)<(c.length:Int)))) (af ?_))
   refine ak (aB rfl (bz t) (ax ?_))
   unfold iE at a
   refine ak (aM (ai (dC tF rfl rfl (bI t) rfl wz (bC mG tH rfl (.d (.agg (Alert.enc b))) rfl wz (dP 0 (.inl rfl) z37 rfl wz (λj=>gy 0 il ft 0 mG rfl rfl (Alert.v b) rfl wz (af (ak (bD (aa (vS g) (aG uz rfl 0 rfl wz (aF 2 0 (.inr (by kernel_rfl)) (λ_ _ ag=>trivial) sz9 ag9 rfl rfl (vS b.Id) rfl wz ?_))))))))))))
   obtain ⟨ã,Ç,a⟩:=bind_some a
   refine gW rfl rfl Ç wz ?_
   obtain ⟨ä,È,a⟩:=bind_some a
   refine gW rfl rfl È wz (aG Mr rfl 1 rfl wz (aF 6 0 (.inr (by kernel_rfl)) (λ_ _ ag=>⟨.inl ⟨rfl,rfl⟩,trivial⟩) sz9 ag9 rfl rfl (vS b.Sender) rfl wz ?_))
   obtain ⟨å,É,a⟩:=bind_some a
   refine gW rfl rfl É wz ?_
   obtain ⟨æ,Ê,a⟩:=bind_some a
   refine gW rfl rfl Ê wz ?_
   obtain ⟨à,Ã,a⟩:=bind_some a
   refine aD (AA Ã) rfl hb46 rfl rfl rfl rfl wz (aG Aa rfl 2 rfl wz (aF 11 0 (.inr (by kernel_rfl)) (λ_ _ ag=>⟨.inl ⟨rfl,rfl⟩,⟨.inl ⟨rfl,rfl⟩,trivial⟩⟩) sz3 ag3 rfl rfl (vI b.Kind) rfl wz ?_))
   obtain ⟨Þ,Æ,a⟩:=bind_some a
   refine dC mI rfl rfl Æ rfl wz (bC sz9 ag9 rfl (vS Þ) rfl wz ?_)
   obtain ⟨ç,Ë,a⟩:=bind_some a
   refine gW rfl rfl Ë wz ?_
   obtain ⟨è,Ì,a⟩:=bind_some a
   refine gW rfl rfl Ì wz (aG qB rfl 4 rfl wz (aF 17 0 (.inr (by kernel_rfl)) (λ_ _ ag=>⟨.inl ⟨rfl,rfl⟩,⟨.inl ⟨rfl,rfl⟩,⟨.inl ⟨rfl,rfl⟩,trivial⟩⟩⟩) sz3 ag3 rfl rfl (vI b.At) rfl wz (aG IM rfl 5 rfl wz (aF 19 0 (.inr (by kernel_rfl)) (λ_ _ ag=>⟨.inl ⟨rfl,rfl⟩,⟨.inl ⟨rfl,rfl⟩,⟨.inl ⟨rfl,rfl⟩,⟨.inl ⟨rfl,rfl⟩,trivial⟩⟩⟩⟩) sz3 ag3 rfl rfl (vI b.Until) rfl wz (aG MQ rfl 6 rfl wz (aF 21 0 (.inr (by kernel_rfl)) (λ_ _ ag=>⟨.inl ⟨rfl,rfl⟩,⟨.inl ⟨rfl,rfl⟩,⟨.inl ⟨rfl,rfl⟩,⟨.inl ⟨rfl,rfl⟩,⟨.inl ⟨rfl,rfl⟩,trivial⟩⟩⟩⟩⟩) sz3 ag3 rfl rfl (vI b.Weight) rfl wz (eD (([b.At,b.Until,b.Weight]:List Int).map eI) lG Dt rfl rfl rfl rfl rfl wz ?_)))))))
   obtain ⟨á,Ä,a⟩:=bind_some a
   refine aD (xk Ä) rfl hb47 rfl rfl rfl rfl wz ?_
   obtain ⟨é,Í,a⟩:=bind_some a
   refine gW rfl rfl Í wz ?_
   obtain ⟨ê,Î,a⟩:=bind_some a
   refine gW rfl rfl Î wz ?_
   obtain ⟨O,Ï,a⟩:=bind_some a
   refine gW rfl rfl Ï wz (aa (vS O) (af (aN (H0:=([(j,some (.cells 9 (Alert.v b)))]:Hp)) ([(3,(vS O)),(5,(.ref j 0 0)),(10,(vL Alert.enc c)),(11,(vI (c.length:Int))),(12,(vI (e:Int)))]:SL_) (by kernel_rfl) (ul (by kernel_rfl)) (ak (ai (aG qG rfl 3 rfl wz (aF 0 0 il ft Ar Ep rfl rfl (vL eS b.Refs) rfl wz (bL ru rfl wz (aa (vI 0) (af ?_))))))))))
   obtain ⟨Û,J,a⟩:=bind_some a
   obtain ⟨À,J⟩:=aZ J
   refine dh (λ(l:ByteArray)=>[(3,(vS l)),(5,(.ref j 0 0)),(10,(vL Alert.enc c)),(11,(vI (c.length:Int))),(12,(vI (e:Int)))]) (λ(l:ByteArray)=>[(j,some (.cells 9 (Alert.v b)))]) (λ(w:Nat)=>(λ(l:ByteArray)=>[(3,(vS l)),(5,(.ref j 0 0)),(10,(vL Alert.enc c)),(11,(vI (c.length:Int))),(12,(vI (e:Int))),(44,(vL eS b.Refs)),(45,(vI (b.Refs.length:Int))),(46,(vI (w:Int)))])) (λk x s=>iC k x s) Û b.Refs O J rfl (aJ rfl) ?_ ?_
   ·rintro ⟨w,M,l⟩ ⟨z,q⟩
    dsimp only at z q
    cases M with
    | nil =>
     obtain rfl:=ae z
     refine ai (aa (vB (decide ((w:Int)<(b.Refs.length:Int)))) (af ?_))
     refine ak (aA rfl (drop_nil q) (bg ?_))
     exact aY (l) rfl rfl (aJ rfl)
    | cons Q M =>
     obtain ⟨R,n,z⟩:=bind_some z
     refine ai (aa (vB (decide ((w:Int)<(b.Refs.length:Int)))) (af ?_))
     refine ak (aB rfl (bz q) (ax ?_))
     unfold iC at n
     refine ak (aM (ai (dC mI rfl rfl (bI q) rfl wz (bC sz9 ag9 rfl (vS Q) rfl wz (aa (vS Q) (af (av (aa (vS l) (aa (vS Q) ?_)))))))))
     obtain ⟨ë,Ð,n⟩:=bind_some n
     refine gW rfl rfl Ð wz ?_
     obtain ⟨ì,Ñ,n⟩:=bind_some n
     refine gW rfl rfl Ñ wz ?_
     obtain ⟨T,Ò,n⟩:=bind_some n
     refine gW rfl rfl Ò wz (aa (vS T) (af (av (fC (bG q À) wz rfl (aa (vI ((w+1:Nat):Int)) (af ?_))))))
     obtain rfl:=ae n
     exact bf (w+1,M,T) ⟨z,aW q⟩ (ls_ _) rfl (aJ rfl)
   ·rintro l C P F o p
    subst C
    refine aN _ o p (ak (ai (aG rZ rfl 7 rfl wz (aF 0 0 il ft BZ FJ rfl rfl (vL Rect.enc b.Areas) rfl wz (bL yX rfl wz (aa (vI 0) (af ?_)))))))
    obtain ⟨Ü,K,a⟩:=bind_some a
    obtain ⟨Á,K⟩:=aZ K
    refine dh (λ(m:ByteArray)=>[(3,(vS m)),(5,(.ref j 0 0)),(10,(vL Alert.enc c)),(11,(vI (c.length:Int))),(12,(vI (e:Int)))]) (λ(m:ByteArray)=>[(j,some (.cells 9 (Alert.v b)))]) (λ(y:Nat)=>(λ(m:ByteArray)=>[(3,(vS m)),(5,(.ref j 0 0)),(10,(vL Alert.enc c)),(11,(vI (c.length:Int))),(12,(vI (e:Int))),(57,(vL Rect.enc b.Areas)),(58,(vI (b.Areas.length:Int))),(59,(vI (y:Int)))])) (λk x s=>iB k x s) Ü b.Areas l K rfl (aJ rfl) ?_ ?_
    ·rintro ⟨y,N,m⟩ ⟨A,u⟩
     dsimp only at A u
     cases N with
     | nil =>
      obtain rfl:=ae A
      refine ai (aa (vB (decide ((y:Int)<(b.Areas.length:Int)))) (af ?_))
      refine ak (aA rfl (drop_nil u) (bg ?_))
      exact aY (m) rfl rfl (aJ rfl)
     | cons i N =>
      obtain ⟨R,h,A⟩:=bind_some A
      refine ai (aa (vB (decide ((y:Int)<(b.Areas.length:Int)))) (af ?_))
      refine ak (aB rfl (bz u) (ax ?_))
      unfold iB at h
      refine ak (aM (ai (dC BI rfl rfl (bI u) rfl wz (bC qw EJ rfl (.d (.agg (Rect.enc i))) rfl wz (dP 0 (.inl rfl) z47 rfl wz (λß=>gy 0 il ft 1 qw rfl rfl (Rect.v i) rfl wz (af (av (aa (vS m) (aG xw rfl 0 rfl wz (aF 0 1 il ft sz3 ag3 rfl rfl (vI i.X) rfl wz (aG uu rfl 1 rfl wz (aF 0 1 il ft sz3 ag3 rfl rfl (vI i.Y) rfl wz (aG BH rfl 2 rfl wz (aF 0 1 il ft sz3 ag3 rfl rfl (vI i.W) rfl wz (aG zx rfl 3 rfl wz (aF 0 1 il ft sz3 ag3 rfl rfl (vI i.H) rfl wz (eD (([i.X,i.Y,i.W,i.H]:List Int).map eI) lG Dt rfl rfl rfl rfl rfl wz ?_))))))))))))))))))
      obtain ⟨â,Å,h⟩:=bind_some h
      refine aD (xk Å) rfl hb47 rfl rfl rfl rfl wz ?_
      obtain ⟨í,Ó,h⟩:=bind_some h
      refine gW rfl rfl Ó wz ?_
      obtain ⟨î,Ô,h⟩:=bind_some h
      refine gW rfl rfl Ô wz ?_
      obtain ⟨U,Õ,h⟩:=bind_some h
      refine gW rfl rfl Õ wz (aa (vS U) (af (av (fC (bG u Á) wz rfl (aa (vI ((y+1:Nat):Int)) (af ?_))))))
      obtain rfl:=ae h
      exact bf (y+1,N,U) ⟨A,aW u⟩ (ls_ _) rfl (aJ rfl)
    ·rintro m C P F o p
     subst C
     refine aN _ o p (ai (aG sZ rfl 8 rfl wz (aF 0 0 il ft sz9 ag9 rfl rfl (vS b.Text) rfl wz (aa (vB (sNe b.Text (⟨#[]⟩:ByteArray))) (af ?_)))))
     obtain ⟨Z,f,a⟩:=bind_some a
     refine aP [(3,(vS Z)),(10,(vL Alert.enc c)),(11,(vI (c.length:Int))),(12,(vI (e:Int)))] [(j,some (.cells 9 (Alert.v b)))] ?_ ?_
     ·rcases aj f with⟨G,f⟩|⟨G,f⟩
      ·refine aB rfl G (av (aa (vS m) (aG sZ rfl 8 rfl wz (aF 0 0 il ft sz9 ag9 rfl rfl (vS b.Text) rfl wz ?_))))
       obtain ⟨ï,Ö,f⟩:=bind_some f
       refine gW rfl rfl Ö wz ?_
       obtain ⟨ð,Ø,f⟩:=bind_some f
       refine gW rfl rfl Ø wz ?_
       obtain ⟨Ý,Ù,f⟩:=bind_some f
       refine gW rfl rfl Ù wz (aa (vS Ý) (af ?_))
       obtain rfl:=ae f
       exact cu
      ·refine aA rfl G (ax ?_)
       obtain rfl:=ae f
       exact cu
     ·rintro ⟨⟩ _ P F o p
      refine aN _ o p (av (fC (bG t Â) wz rfl (aa (vI ((e+1:Nat):Int)) (af ?_))))
      obtain rfl:=ae a
      exact bf (e+1,L,Z) ⟨B,aW t⟩ (ls_ _) rfl (aJ rfl)
 ·rintro g C P F o p
  subst C
  refine aN _ o p (ai (aa (vS g) (aa (vS g) (af ?_))))
  obtain rfl:=ae E
  exact ay (aK [(vS g)] ⟨rfl,trivial⟩)
theorem BU {b:Alert} {c:Alert} {r:Bool} (a:jL b c=some r) :
  FnM Tryz.prog 8 [(.d (.agg (Alert.enc b))),(.d (.agg (Alert.enc c)))] [] (vB r) []:=by
 refine FnM.of_wH ⟨Tryz.prog,12,[],[]⟩ rfl Tryz.func8 rfl rfl (lb_ rfl) (by kernel_rfl) ?_
 unfold jL at a
 refine ai (iW 0 (.inl rfl) (Alert.v b) rfl rfl wz (λi=>iW 0 (.inl rfl) (Alert.v c) rfl rfl wz (λj=>aa (vB false) (af (ak (bD (aF 0 0 (.inr (by kernel_rfl)) (λ_ _ ag=>trivial) mG tH rfl rfl (.d (.agg (Alert.enc b))) rfl wz (eD (([b]:List Alert).map Alert.enc) tF Qc rfl rfl rfl rfl rfl wz ?_))))))))
 obtain ⟨e,g,a⟩:=bind_some a
 refine aD (oN g) rfl hb26 rfl rfl rfl rfl wz (aF 3 1 (.inr (by kernel_rfl)) (λ_ _ ag=>⟨.inl ⟨rfl,rfl⟩,trivial⟩) mG tH rfl rfl (.d (.agg (Alert.enc c))) rfl wz (eD (([c]:List Alert).map Alert.enc) tF Qc rfl rfl rfl rfl rfl wz ?_))
 obtain ⟨f,h,a⟩:=bind_some a
 refine aD (oN h) rfl hb26 rfl rfl rfl rfl wz (aa (vB (sEq e f)) (aa (vB (sEq e f)) (af ?_)))
 obtain rfl:=ae a
 exact ay (aK [(vB (sEq e f))] ⟨rfl,trivial⟩)
theorem gm {s1_1:(List Alert)} {s2_2:(List Alert)} {r:Bool} (b:aU s1_1 s2_2=some r) :
  FnM Tryz.prog 7 [(vL Alert.enc s1_1),(vL Alert.enc s2_2),(.fn 8 [])] [] (vB r) []:=by
 refine FnM.of_wH ⟨Tryz.prog,32,[],[]⟩ rfl Tryz.func7 rfl rfl (lb_ rfl) (by kernel_rfl) ?_
 unfold aU at b
 refine ai (aa (vB false) (af (ak (ai (aa (vL Alert.enc s1_1) (bL zI rfl wz (aa (vL Alert.enc s2_2) (bL zI rfl wz (aa (vB ((s1_1.length:Int) != (s2_2.length:Int))) (af ?_))))))))))
 rcases aj b with⟨i,b⟩|⟨i,b⟩
 ·refine aB rfl i (ai (aa (vB false) (af ?_)))
  obtain rfl:=ae b
  exact ay (aK [(vB false)] ⟨rfl,trivial⟩)
 ·refine aA rfl i (ax (ak (ai (aa (vL Alert.enc s1_1) (bL zI rfl wz (aa (vI 0) (af ?_)))))))
  obtain ⟨y,j,b⟩:=bind_some b
  obtain ⟨o,j⟩:=aZ j
  refine dh (λ(g:Unit)=>[]) (λ(g:Unit)=>[]) (λ(c:Nat)=>(λ(g:Unit)=>[(1,(vL Alert.enc s2_2)),(2,(.fn 8 [])),(15,(vL Alert.enc s1_1)),(16,(vI (s1_1.length:Int))),(17,(vI (c:Int)))])) (λk x s=>aO s2_2 k x s) y s1_1 () j rfl (aJ rfl) ?_ ?_
  ·rintro ⟨c,l,g⟩ ⟨f,e⟩
   dsimp only at f e
   cases l with
   | nil =>
    obtain rfl:=ae f
    refine ai (aa (vB (decide ((c:Int)<(s1_1.length:Int)))) (af ?_))
    refine ak (aA rfl (drop_nil e) (bg ?_))
    exact aY (g) rfl rfl (aJ rfl)
   | cons m l =>
    obtain ⟨B,a,f⟩:=bind_some f
    refine ai (aa (vB (decide ((c:Int)<(s1_1.length:Int)))) (af ?_))
    refine ak (aB rfl (bz e) (ax ?_))
    unfold aO at a
    refine ak (aM (ai (aa (vI (c:Int)) (dC tF rfl rfl (bI e) rfl wz (bC mG tH rfl (.d (.agg (Alert.enc m))) rfl wz (dP 0 (.inl rfl) z37 rfl wz (λC=>aa (vI (c:Int)) (gy 0 il ft 0 mG rfl rfl (Alert.v m) rfl wz (af (ai (aa (vL Alert.enc s2_2) (aa (vI (c:Int)) ?_))))))))))))
    obtain ⟨n,w,a⟩:=bind_some a
    refine dC tF rfl rfl w rfl wz (bC mG tH rfl (.d (.agg (Alert.enc n))) rfl wz (dP 0 (.inl rfl) z37 rfl wz (λE=>gy 0 il ft 1 mG rfl rfl (Alert.v n) rfl wz (af (ai (aa (.fn 8 []) (aF 0 0 il ft mG tH rfl rfl (.d (.agg (Alert.enc m))) rfl wz (aF 0 1 il ft mG tH rfl rfl (.d (.agg (Alert.enc n))) rfl wz ?_))))))))
    obtain ⟨z,u,a⟩:=bind_some a
    refine aD (BU u) rfl hb8 rfl rfl rfl rfl wz (aa (vB (!z)) (af ?_))
    rcases aj a with⟨h,a⟩|⟨h,a⟩
    ·refine aB rfl h (ai (aa (vB false) (af ?_)))
     obtain rfl:=ae a
     obtain rfl:=ae f
     obtain rfl:=ae b
     exact ay (aK [(vB false)] ⟨rfl,trivial⟩)
    ·refine aA rfl h (ax (av (fC (bG e o) wz rfl (aa (vI ((c+1:Nat):Int)) (af ?_)))))
     obtain rfl:=ae a
     exact bf (c+1,l,()) ⟨f,aW e⟩ (ls_ _) rfl (aJ rfl)
  ·rintro g p F A q t
   subst p
   refine aN _ q t (ai (aa (vB true) (af ?_)))
   obtain rfl:=ae b
   exact ay (aK [(vB true)] ⟨rfl,trivial⟩)
theorem xS {h:Stream} {c:ByteArray} {e:ByteArray} {r:ByteArray×Stream} (a:iy h c e=some r) :
  FnM Tryz.prog 27 [(.ref (au 0) 0 0),(vS c),(vS e)] [(.cells 2 [(vL eI h.L),(vI h.f_at)])] (vS r.1) [some (.cells 2 [(vL eI r.2.L),(vI r.2.f_at)])]:=by
 refine FnM.of_wH ⟨Tryz.prog,63,[],[]⟩ rfl Tryz.func27 rfl rfl (lb_ rfl) (by kernel_rfl) ?_
 unfold iy at a
 refine ai (aa (vS (⟨#[]⟩:ByteArray)) (af (ak (ak ?_))))
 obtain ⟨K,g,a⟩:=bind_some a
 refine aP [(0,(.ref (au 0) 0 0)),(1,(vS c)),(2,(vS e)),(14,(vB K))] [((au 0),some (.cells 2 [(vL eI h.L),(vI h.f_at)]))] ?_ ?_
 ·refine av (aa (vS c) (aa (vB (sEq c (⟨#[]⟩:ByteArray))) ?_))
  rcases aj g with⟨l,g⟩|⟨l,g⟩
  ·refine aC rfl l wz (ah (ah (aa (vB true) (af ?_))))
   obtain rfl:=ae g
   exact cu
  ·refine aC rfl l wz (aI (vS e) wa rfl (aI (vB (sEq e (⟨#[]⟩:ByteArray))) wa rfl (aa (vB (sEq e (⟨#[]⟩:ByteArray))) (af ?_))))
   obtain rfl:=ae g
   exact cu
 ·rintro ⟨⟩ _ P M s t
  refine aN _ s t ?_
  rcases aj a with⟨m,a⟩|⟨m,a⟩
  ·refine aB rfl m (ai (aa (vS e) (aa (vS e) (af ?_))))
   obtain rfl:=ae a
   exact ay (Ad (.inr rfl) [(vS e)] _ [0] [au 0] ⟨rfl,trivial⟩ (.cons (jl rfl rfl) (.nil)) (by kernel_rfl) ⟨(by kernel_rfl),trivial⟩ (by decide) (by kernel_rfl))
  ·refine aA rfl m (ax (ai (aa (.ref (au 0) 0 0) (aa (vS c) (oK un9 rfl wz ?_)))))
   obtain ⟨b,w,a⟩:=bind_some a
   refine dQ 0 [0] il ft (fZ w) rfl MG rfl (by kernel_rfl) (by kernel_rfl) (by kernel_rfl) (by kernel_rfl) (by kernel_rfl) (by kernel_rfl) (by kernel_rfl) (by decide) (by kernel_rfl) wz (vI b.1) (by kernel_rfl) ([((au 0),some (.cells 2 [(vL eI b.2.L),(vI b.2.f_at)]))]:Hp) (by kernel_rfl) (aa (vI b.1) (af (ai (aa (vS e) (aa (.ref (au 0) 0 0) (aa (vS e) (oK un9 rfl wz ?_)))))))
   obtain ⟨n,u,a⟩:=bind_some a
   refine dQ 0 [0] il ft (fZ u) rfl MG rfl (by kernel_rfl) (by kernel_rfl) (by kernel_rfl) (by kernel_rfl) (by kernel_rfl) (by kernel_rfl) (by kernel_rfl) (by decide) (by kernel_rfl) wz (vI n.1) (by kernel_rfl) ([((au 0),some (.cells 2 [(vL eI n.2.L),(vI n.2.f_at)]))]:Hp) (by kernel_rfl) ?_
   obtain ⟨i,x,a⟩:=bind_some a
   refine xI un9 rfl rfl x wz (aa (.d (.int .u8 (i.toNat:Int))) (af (ak (ai (aa (.ref (au 0) 0 0) ?_)))))
   obtain ⟨f,v,a⟩:=bind_some a
   refine dQ 0 [0] il ft (fZ v) rfl MG rfl (by kernel_rfl) (by kernel_rfl) (by kernel_rfl) (by kernel_rfl) (by kernel_rfl) (by kernel_rfl) (by kernel_rfl) (by decide) (by kernel_rfl) wz (vI f.1) (by kernel_rfl) ([((au 0),some (.cells 2 [(vL eI f.2.L),(vI f.2.f_at)]))]:Hp) (by kernel_rfl) (af (aM (ai (aa (vB (f.1==0)) (aa (vB (f.1==0)) (af ?_))))))
   rcases aj a with⟨j,a⟩|⟨j,a⟩
   ·refine aB rfl j (ak (bD (aa (vS c) (aa (vI b.1) ?_))))
    obtain ⟨Q,y,a⟩:=bind_some a
    refine oV un9 rfl rfl y wz (aa (.d (.int .u8 (i.toNat:Int))) (xJ un5 un21 rfl wz (NN un21 un9 rfl wz ?_)))
    obtain ⟨N,F,a⟩:=bind_some a
    refine gW rfl rfl F wz (aa (vS c) (aa (vI b.1) (aa (vI (w64 (b.1+1))) ?_)))
    obtain ⟨R,z,a⟩:=bind_some a
    refine mr un9 rfl rfl z wz ?_
    obtain ⟨p,G,a⟩:=bind_some a
    refine gW rfl rfl G wz (aa (vS p) (af ?_))
    obtain rfl:=ae a
    exact ay (Ad (.inr rfl) [(vS p)] _ [0] [au 0] ⟨rfl,trivial⟩ (.cons (jl rfl rfl) (.nil)) (by kernel_rfl) ⟨(by kernel_rfl),trivial⟩ (by decide) (by kernel_rfl))
   ·refine aA rfl j (ai (aa (vB (f.1==1)) (aa (vB (f.1==1)) (af ?_))))
    rcases aj a with⟨k,a⟩|⟨k,a⟩
    ·refine aB rfl k (ak (bD (aa (vS c) (aa (vI b.1) ?_))))
     obtain ⟨T,A,a⟩:=bind_some a
     refine oV un9 rfl rfl A wz (aa (.d (.int .u8 (i.toNat:Int))) (xJ un5 un21 rfl wz (NN un21 un9 rfl wz ?_)))
     obtain ⟨O,H,a⟩:=bind_some a
     refine gW rfl rfl H wz (aa (vS c) (aa (vI b.1) ?_))
     obtain ⟨U,B,a⟩:=bind_some a
     refine mr un9 rfl rfl B wz ?_
     obtain ⟨o,I,a⟩:=bind_some a
     refine gW rfl rfl I wz (aa (vS o) (af (aN (H0:=([((au 0),some (.cells 2 [(vL eI f.2.L),(vI f.2.f_at)]))]:Hp)) ([(6,(vS o))]:SL_) (by kernel_rfl) (ul (by kernel_rfl)) ?_)))
     obtain rfl:=ae a
     exact ay (Ad (.inr rfl) [(vS o)] _ [0] [au 0] ⟨rfl,trivial⟩ (.cons (jl rfl rfl) (.nil)) (by kernel_rfl) ⟨(by kernel_rfl),trivial⟩ (by decide) (by kernel_rfl))
    ·refine aA rfl k (ax (ak (bD (aa (vS c) (aa (vI b.1) ?_)))))
     obtain ⟨W,C,a⟩:=bind_some a
     refine oV un9 rfl rfl C wz (aa (vS c) (aa (vI b.1) (aa (vI (w64 (b.1+1))) ?_)))
     obtain ⟨X,E,a⟩:=bind_some a
     refine mr un9 rfl rfl E wz ?_
     obtain ⟨q,J,a⟩:=bind_some a
     refine gW rfl rfl J wz (aa (vS q) (af ?_))
     obtain rfl:=ae a
     exact ay (Ad (.inr rfl) [(vS q)] _ [0] [au 0] ⟨rfl,trivial⟩ (.cons (jl rfl rfl) (.nil)) (by kernel_rfl) ⟨(by kernel_rfl),trivial⟩ (by decide) (by kernel_rfl))
theorem wB {v:Stream} {r:ByteArray×Stream} (a:iP v=some r) :
  FnM Tryz.prog 9 [(.ref (au 0) 0 0)] [(.cells 2 [(vL eI v.L),(vI v.f_at)])] (vS r.1) [some (.cells 2 [(vL eI r.2.L),(vI r.2.f_at)])]:=by
 refine FnM.of_wH ⟨Tryz.prog,24,[],[]⟩ rfl Tryz.func9 rfl rfl (lb_ rfl) (by kernel_rfl) ?_
 unfold iP at a
 refine ai (aa (vS (⟨#[]⟩:ByteArray)) (af (ai (aa (.ref (au 0) 0 0) ?_))))
 obtain ⟨q,E,a⟩:=bind_some a
 refine dQ 0 [0] il ft (nz E) rfl hb4 rfl (by kernel_rfl) (by kernel_rfl) (by kernel_rfl) (by kernel_rfl) (by kernel_rfl) (by kernel_rfl) (by kernel_rfl) (by decide) (by kernel_rfl) wz (vL Alert.enc q.1) (by kernel_rfl) ([((au 0),some (.cells 2 [(vL eI q.2.L),(vI q.2.f_at)]))]:Hp) (by kernel_rfl) ?_
 obtain ⟨w,G,a⟩:=bind_some a
 refine aD (oN G) rfl hb26 rfl rfl rfl rfl wz (aa (vS w) (af (ak (ai (aa (.ref (au 0) 0 0) (eD (([0,0,1,2]:List Int).map eI) lG Dt rfl rfl rfl rfl rfl wz ?_))))))
 obtain ⟨d,H,a⟩:=bind_some a
 refine dQ 0 [0] il ft (ll H) rfl hb13 rfl (by kernel_rfl) (by kernel_rfl) (by kernel_rfl) (by kernel_rfl) (by kernel_rfl) (by kernel_rfl) (by kernel_rfl) (by decide) (by kernel_rfl) wz (vI d.1) (by kernel_rfl) ([((au 0),some (.cells 2 [(vL eI d.2.L),(vI d.2.f_at)]))]:Hp) (by kernel_rfl) (aa (vI 0) (af ?_))
 obtain ⟨J,m,a⟩:=bind_some a
 obtain ⟨z,m⟩:=aZ m
 refine dh (λ(b:ByteArray×(List Int)×Int)=>[(0,(.ref (au 0) 0 0)),(3,(vS b.1))]) (λ(b:ByteArray×(List Int)×Int)=>[((au 0),some (.cells 2 [(vL eI b.2.1),(vI b.2.2)]))]) (λ(f:Nat)=>(λ(b:ByteArray×(List Int)×Int)=>[(0,(.ref (au 0) 0 0)),(3,(vS b.1)),(9,(vI d.1)),(10,(vI (f:Int)))])) (λk x s=>fV k x s) J (List.range (d.1).toNat) (w,d.2.L,d.2.f_at) m rfl (aJ rfl) ?_ ?_
 ·rintro ⟨f,p,b⟩ ⟨i,h⟩
  dsimp only at i h
  cases p with
  | nil =>
   obtain rfl:=ae i
   refine ai (aa (vB (decide ((f:Int)<d.1))) (af ?_))
   refine ak (aA rfl (Cf h) (bg ?_))
   exact aY (b) rfl rfl (aJ rfl)
  | cons O p =>
   obtain ⟨N,j,i⟩:=bind_some i
   refine ai (aa (vB (decide ((f:Int)<d.1))) (af ?_))
   refine ak (aB rfl (zR h) (ax ?_))
   unfold fV at j
   refine ak (aM (av (aa (.ref (au 0) 0 0) (aa (vS b.1) ?_))))
   obtain ⟨e,B,j⟩:=bind_some j
   refine dQ 0 [0] il ft (xS B) rfl hb27 rfl (by kernel_rfl) (by kernel_rfl) (by kernel_rfl) (by kernel_rfl) (by kernel_rfl) (by kernel_rfl) (by kernel_rfl) (by decide) (by kernel_rfl) wz (vS e.1) (by kernel_rfl) ([((au 0),some (.cells 2 [(vL eI e.2.L),(vI e.2.f_at)]))]:Hp) (by kernel_rfl) (aa (vS e.1) (af (av (fC (Cv h z) wz rfl (aa (vI ((f+1:Nat):Int)) (af ?_))))))
   obtain rfl:=ae j
   exact bf (f+1,p,(e.1,e.2.L,e.2.f_at)) ⟨i,aW h⟩ (ls_ _) rfl (aJ rfl)
 ·rintro b A M y n o
  subst A
  refine aN _ n o (ak (ai (aa (.ref (au 0) 0 0) ?_)))
  obtain ⟨t,C,a⟩:=bind_some a
  refine dQ 0 [0] il ft (tY C) rfl hb14 rfl (by kernel_rfl) (by kernel_rfl) (by kernel_rfl) (by kernel_rfl) (by kernel_rfl) (by kernel_rfl) (by kernel_rfl) (by decide) (by kernel_rfl) wz (vB t.1) (by kernel_rfl) ([((au 0),some (.cells 2 [(vL eI t.2.L),(vI t.2.f_at)]))]:Hp) (by kernel_rfl) (af ?_)
  obtain ⟨g,c,a⟩:=bind_some a
  refine aP [(3,(vS g.1))] [((au 0),some (.cells 2 [(vL eI g.2.1),(vI g.2.2)]))] ?_ ?_
  ·rcases aj c with⟨l,c⟩|⟨l,c⟩
   ·refine aB rfl l (av (aa (vS b.1) (aa (.ref (au 0) 0 0) (eD (([(⟨#[116,101,120,116,32,120,10]⟩:ByteArray),(⟨#[114,101,102,32,122,122,10]⟩:ByteArray),(⟨#[97,114,101,97,32,48,32,48,32,49,32,49,10]⟩:ByteArray),(⟨#[116,101,120,116,32,10]⟩:ByteArray),(⟨#[116,101,120,116,32,32,120,10]⟩:ByteArray)]:List ByteArray).map eS) mI DD rfl rfl rfl rfl rfl wz ?_))))
    obtain ⟨u,F,c⟩:=bind_some c
    refine dQ 0 [0] il ft (lm F) rfl hb12 rfl (by kernel_rfl) (by kernel_rfl) (by kernel_rfl) (by kernel_rfl) (by kernel_rfl) (by kernel_rfl) (by kernel_rfl) (by decide) (by kernel_rfl) wz (vS u.1) (by kernel_rfl) ([((au 0),some (.cells 2 [(vL eI u.2.L),(vI u.2.f_at)]))]:Hp) (by kernel_rfl) ?_
    obtain ⟨K,I,c⟩:=bind_some c
    refine gW rfl rfl I wz (aa (vS K) (af ?_))
    obtain rfl:=ae c
    exact cu
   ·refine aA rfl l (ax ?_)
    obtain rfl:=ae c
    exact cu
  ·rintro ⟨⟩ _ M y n o
   refine aN _ n o (ai (aa (vS g.1) (aa (vS g.1) (af ?_))))
   obtain rfl:=ae a
   exact ay (Ad (.inr rfl) [(vS g.1)] _ [0] [au 0] ⟨rfl,trivial⟩ (.cons (jl rfl rfl) (.nil)) (by kernel_rfl) ⟨(by kernel_rfl),trivial⟩ (by decide) (by kernel_rfl))
theorem xU {a:(List Rect)} {r:Int} (b:lF a=some r) :
  FnM Tryz.prog 48 [(vL Rect.enc a)] [] (vI r) []:=by
 refine FnM.of_wH ⟨Tryz.prog,21,[],[]⟩ rfl Tryz.func48 rfl rfl (lb_ rfl) (by kernel_rfl) ?_
 unfold lF at b
 refine ai (aa (vI 0) (af (ak (ai (aa (vL Rect.enc a) (bL yX rfl wz (aa (vB (decide ((a.length:Int)>2000))) (af ?_))))))))
 rcases aj b with⟨l,b⟩|⟨l,b⟩
 ·refine aB rfl l (ai (aa (vI 2) (af ?_)))
  obtain rfl:=ae b
  exact ay (aK [(vI 2)] ⟨rfl,trivial⟩)
 ·refine aA rfl l (ax (ak (ai (aa (vL Rect.enc a) (bL yX rfl wz (aa (vI 0) (af ?_)))))))
  obtain ⟨y,m,b⟩:=bind_some b
  obtain ⟨p,m⟩:=aZ m
  refine dh (λ(i:Unit)=>[]) (λ(i:Unit)=>[]) (λ(g:Nat)=>(λ(i:Unit)=>[(9,(vL Rect.enc a)),(10,(vI (a.length:Int))),(11,(vI (g:Int)))])) (λk x s=>l7 k x s) y a () m rfl (aJ rfl) ?_ ?_
  ·rintro ⟨g,n,i⟩ ⟨f,e⟩
   dsimp only at f e
   cases n with
   | nil =>
    obtain rfl:=ae f
    refine ai (aa (vB (decide ((g:Int)<(a.length:Int)))) (af ?_))
    refine ak (aA rfl (drop_nil e) (bg ?_))
    exact aY (i) rfl rfl (aJ rfl)
   | cons o n =>
    obtain ⟨A,c,f⟩:=bind_some f
    refine ai (aa (vB (decide ((g:Int)<(a.length:Int)))) (af ?_))
    refine ak (aB rfl (bz e) (ax ?_))
    unfold l7 at c
    refine ak (aM (ai (dC BI rfl rfl (bI e) rfl wz (bC qw EJ rfl (.d (.agg (Rect.enc o))) rfl wz (dP 0 (.inl rfl) z47 rfl wz (λB=>gy 0 il ft 0 qw rfl rfl (Rect.v o) rfl wz (af (ai (aF 0 0 il ft qw EJ rfl rfl (.d (.agg (Rect.enc o))) rfl wz ?_)))))))))
    obtain ⟨h,w,c⟩:=bind_some c
    refine aD (qP w) rfl hb75 rfl rfl rfl rfl wz (aa (vI h) (af (ai (aa (vI h) (aa (vB (h != 0)) (af ?_))))))
    rcases aj c with⟨j,c⟩|⟨j,c⟩
    ·refine aB rfl j (ai (aa (vI h) (aa (vI h) (af ?_))))
     obtain rfl:=ae c
     obtain rfl:=ae f
     obtain rfl:=ae b
     exact ay (aK [(vI h)] ⟨rfl,trivial⟩)
    ·refine aA rfl j (ax (av (fC (bG e p) wz rfl (aa (vI ((g+1:Nat):Int)) (af ?_)))))
     obtain rfl:=ae c
     exact bf (g+1,n,()) ⟨f,aW e⟩ (ls_ _) rfl (aJ rfl)
  ·rintro i q C z t u
   subst q
   refine aN _ t u (ai (aa (vI 0) (af ?_)))
   obtain rfl:=ae b
   exact ay (aK [(vI 0)] ⟨rfl,trivial⟩)
theorem nJ {b:Int} {r:Bool} (a:gH b=some r) :
  FnM Tryz.prog 122 [.nil,(vI b)] [] (kV r (au 0) 4 ([]:List Rect)) (kO r 4):=by
 refine FnM.of_wH ⟨Tryz.prog,27,[],[]⟩ rfl Tryz.func122 rfl rfl (lb_ rfl) (by kernel_rfl) ?_
 unfold gH at a
 refine ai (aa .nil (af (ak (ai (aa (vI b) (aa (vB (decide (b<0))) (af ?_)))))))
 rcases aj a with⟨c,a⟩|⟨c,a⟩
 ·refine aB rfl c (av ?_)
  cases a
 ·refine aA rfl c (ax (ak (ai (aa (vI b) (aa .nil (Qb FX rfl wz (aa .nil (Qk yX rfl wz (aa (vI (w64 (0-0))) (aa (vI (w64 (b-(w64 (0-0))))) (aa (vI (w64 (b-(w64 (0-0))))) (af (ai (aa (vI (w64 (b-(w64 (0-0))))) (aa (vB (decide ((w64 (b-(w64 (0-0))))>0))) (af ?_))))))))))))))))
  rcases aj a with⟨d,a⟩|⟨d,a⟩
  ·refine aB rfl d (av (aa .nil (aa .nil (Qb FX rfl wz (aI .nil wz (by kernel_rfl) (aa (vI (w64 (b-(w64 (0-0))))) ?_))))))
   obtain ⟨_,f,a⟩:=bind_some a
   refine h_appz (enc:=Rect.enc) 0 (.inl rfl) FX (by kernel_rfl) qw z47 rfl (by decide) Qe rfl rfl f wz (λe=>aa .nil (Qk yX rfl wz (h_cutm (m:=0) yX qw rfl rfl rfl (Nat.zero_le _) wz (aa (.vs e 4 0 0) (af (ai (aa (.vs e 4 0 0) (aa (.vs e 4 0 0) (af ?_)))))))))
   obtain rfl:=ae a
   exact ay (finK (.inr rfl) 0 rfl rfl)
  ·refine aA rfl d (ax (ai (aa .nil (aa .nil (af ?_)))))
   obtain rfl:=ae a
   exact ay (finK0 (.inr rfl) rfl)
theorem nM {a:(List (List Rect))} {r:(List Rect)} (g:eu a=some r) :
  FnM Tryz.prog 87 [(vL (eL Rect.enc) a)] [] (vL Rect.enc r) []:=by
 refine FnM.of_wH ⟨Tryz.prog,36,[],[]⟩ rfl Tryz.func87 rfl rfl (lb_ rfl) (by kernel_rfl) ?_
 unfold eu at g
 refine ai (aa .nil (af (ai (aa (vI 0) (af (ak (ai (aa (vL (eL Rect.enc) a) (bL un175 rfl wz (aa (vI 0) (af ?_)))))))))))
 obtain ⟨R,z,g⟩:=bind_some g
 obtain ⟨O,z⟩:=aZ z
 refine dh (λ(b:Int)=>[(0,(vL (eL Rect.enc) a)),(3,(vI b))]) (λ(b:Int)=>[]) (λ(h:Nat)=>(λ(b:Int)=>[(0,(vL (eL Rect.enc) a)),(3,(vI b)),(9,(vL (eL Rect.enc) a)),(10,(vI (a.length:Int))),(11,(vI (h:Int)))])) (λk x s=>fI k x s) R a 0 z rfl (aJ rfl) ?_ ?_
 ·rintro ⟨h,E,b⟩ ⟨o,l⟩
  dsimp only at o l
  cases E with
  | nil =>
   obtain rfl:=ae o
   refine ai (aa (vB (decide ((h:Int)<(a.length:Int)))) (af ?_))
   refine ak (aA rfl (drop_nil l) (bg ?_))
   exact aY (b) rfl rfl (aJ rfl)
  | cons e E =>
   obtain ⟨L,w,o⟩:=bind_some o
   refine ai (aa (vB (decide ((h:Int)<(a.length:Int)))) (af ?_))
   refine ak (aB rfl (bz l) (ax ?_))
   unfold fI at w
   refine ak (aM (ai (dC QT rfl rfl (bI l) rfl wz (bC BZ FJ rfl (vL Rect.enc e) rfl wz (aa (vL Rect.enc e) (af (ai (aa (vI b) (aa (vL Rect.enc e) (bL yX rfl wz (aa (vI (w64 (b+(e.length:Int)))) (aa (vI (w64 (b+(e.length:Int)))) (af (ai (aa (vI (w64 (b+(e.length:Int)))) (aa (vB (decide ((w64 (b+(e.length:Int)))<0))) (af ?_)))))))))))))))))
   obtain ⟨U,q,w⟩:=bind_some w
   refine aP [(0,(vL (eL Rect.enc) a)),(3,(vI (w64 (b+(e.length:Int))))),(9,(vL (eL Rect.enc) a)),(10,(vI (a.length:Int))),(11,(vI (h:Int)))] [] ?_ ?_
   ·rcases aj q with⟨y,q⟩|⟨y,q⟩
    ·refine aB rfl y (av ?_)
     cases q
    ·refine aA rfl y (ax ?_)
     obtain rfl:=ae q
     exact cu
   ·rintro ⟨⟩ _ K G t u
    refine aN _ t u (av (fC (bG l O) wz rfl (aa (vI ((h+1:Nat):Int)) (af ?_))))
    obtain rfl:=ae w
    exact bf (h+1,E,(w64 (b+(e.length:Int)))) ⟨o,aW l⟩ (ls_ _) rfl (aJ rfl)
 ·rintro b B K G t u
  subst B
  refine aN _ t u (ai (aa (vI b) ?_))
  obtain ⟨f,P,g⟩:=bind_some g
  refine h_callk (enc:=Rect.enc) (nJ P) rfl hb122 (by kernel_rfl) rfl (by kernel_rfl) wz (λI=>aa (kV f I 4 ([]:List Rect)) (af (ak (ai (aa (vL (eL Rect.enc) a) (bL un175 rfl wz (aa (vI 0) (af ?_))))))))
  obtain ⟨T,A,g⟩:=bind_some g
  obtain ⟨M,A⟩:=aZ A
  refine iq (σ:=(List Rect)) (N:=Nm) (λp=>(λ(c:List Rect) (d:Nm)=>([(6,(kV f d 4 c))]:SL_)) p.1 p.2) (λp=>(λ(c:List Rect) (d:Nm)=>([(d,kB f 4 Rect.enc c)]:Hp)) p.1 p.2) (λ(m:Nat)=>(λp=>(λ(c:List Rect) (d:Nm)=>([(6,(kV f d 4 c)),(25,(vL (eL Rect.enc) a)),(26,(vI (a.length:Int))),(27,(vI (m:Int)))]:SL_)) p.1 p.2)) (λk x s=>fH k x s) T a (([]:List Rect),I) A rfl (aJ rfl) ?_ ?_
  ·rintro ⟨m,C,c,d⟩ ⟨n,j⟩
   dsimp only at n j
   cases C with
   | nil =>
    obtain rfl:=ae n
    refine ai (aa (vB (decide ((m:Int)<(a.length:Int)))) (af ?_))
    refine ak (aA rfl (drop_nil j) (bg ?_))
    exact aY (c,d) rfl rfl (aJ rfl)
   | cons F C =>
    obtain ⟨L,v,n⟩:=bind_some n
    refine ai (aa (vB (decide ((m:Int)<(a.length:Int)))) (af ?_))
    refine ak (aB rfl (bz j) (ax ?_))
    unfold fH at v
    refine ak (aM (ai (dC QT rfl rfl (bI j) rfl wz (bC BZ FJ rfl (vL Rect.enc F) rfl wz (aa (vL Rect.enc F) (af (av (aa (kV f d 4 c) (aa (vL Rect.enc F) ?_)))))))))
    obtain ⟨H,Q,v⟩:=bind_some v
    refine h_appk 0 il ft (i:=0) FX FX qw z47 rfl (by decide) Qe (by decide) (λ_=>rfl) rfl rfl rfl Q wz (λJ=>aa (kV f J 4 H) (af (av (fC (bG j M) wz rfl (aa (vI ((m+1:Nat):Int)) (af ?_))))))
    obtain rfl:=ae v
    exact bf (m+1,C,H,J) ⟨n,aW j⟩ (ls_ _) rfl (aJ rfl)
  ·rintro ⟨c,d⟩ B K G t u
   subst B
   refine aN _ t u (ai (aa (kV f d 4 c) (aa (kV f d 4 c) (af (Qy 0 rfl (Mo 2 0 rfl rfl (Mo 6 0 rfl rfl (Mo 35 0 rfl rfl ?_))))))))
   obtain rfl:=ae g
   exact ay (aK [(vL Rect.enc c)] ⟨rfl,trivial⟩)
theorem tu {x r:(List Int)} (a:iT x=some r) :
  FnM Tryz.prog 88 [(dV (au 0) 1 x)] (([]:List Box)++gI 1 eI x) (.tup []) (([]:List Box).map some++gT x (gB 1 eI r)) :=
 Qu Tryz.slices_Sort_int Tryz.slices_Sort_int_none a
theorem qJ {b:(List Int)} {r:(List Int)} (g:eZ b=some r) :
  FnM Tryz.prog 89 [(dV (au 0) 1 b)] (([]:List Box)++gI 1 eI b) (vL eI r) (([]:List Box).map some++gT b none):=by
 refine FnM.of_wHv ⟨Tryz.prog,61,[],[]⟩ rfl Tryz.func89 rfl rfl (lb_ rfl) (by kernel_rfl) ?_
 unfold eZ at g
 refine ai (aa .nil (af (ak (ai (aa (dV (au 0) 1 b) (I5 wW rfl wz (aa (vB (decide ((b.length:Int)<2))) (af ?_))))))))
 rcases aj g with⟨w,g⟩|⟨w,g⟩
 ·refine aB rfl w (ai (aa (dV (au 0) 1 b) (aa (dV (au 0) 1 b) (af (ig 0 rfl (zz 0 0 rfl rfl (zz 2 0 rfl rfl (zz 6 0 rfl rfl (zz 9 0 rfl rfl (Bf (i:=0) rfl ?_))))))))))
  obtain rfl:=ae g
  exact ay (EE (bs:=([]:List Box)) (os:=([]:List Box)) (xs:=b) (o:=none) (.inr rfl) [(vL eI b)] ⟨rfl,trivial⟩ rfl rfl rfl rfl rfl (by kernel_rfl) DN rfl)
 ·refine aA rfl w (ax (ak (ai (aa (vI 1) (af ?_)))))
  obtain ⟨Ã,A,g⟩:=bind_some g
  obtain ⟨Â,A⟩:=fe A
  refine iA (λ(c:Int)=>[(0,(dV (au 0) 1 b))]) (λ(c:Int)=>[((au 0),gB 1 eI b)]) (λ(u:Nat)=>(λ(c:Int)=>[(0,(dV (au 0) 1 b)),(3,(vI c))])) (λs=>dM b s) Ã Â 1 A rfl (aJ rfl) ?_ ?_
  ·rintro ⟨u,c⟩ j
   dsimp only at j
   cases u with
   | zero=>cases j
   | succ u =>
    obtain ⟨R,d,j⟩:=bind_some j
    unfold dM at d
    refine ak (ai (aa (vI c) (aa (dV (au 0) 1 b) (I5 wW rfl wz (aa (vB (decide (c<(b.length:Int)))) (af ?_))))))
    rcases aj d with⟨v,d⟩|⟨v,d⟩
    ·refine aB rfl v (ax (ak (aM (ak (bD (aa (dV (au 0) 1 b) (aa (vI c) ?_)))))))
     obtain ⟨_,K,d⟩:=bind_some d
     refine oo lG rfl rfl (lC K) (iR K) wz ?_
     obtain ⟨G,U,d⟩:=bind_some d
     refine o8 3 0 (.inr (by kernel_rfl)) (λ_ _ ag=>trivial) sz3 ag3 rfl rfl U (vI G) rfl wz (aa (dV (au 0) 1 b) (aa (vI c) (aa (vI (w64 (c-1))) ?_)))
     obtain ⟨_,L,d⟩:=bind_some d
     refine oo lG rfl rfl (lC L) (iR L) wz ?_
     obtain ⟨H,W,d⟩:=bind_some d
     refine o8 8 0 (.inr (by kernel_rfl)) (λ_ _ ag=>⟨.inl ⟨rfl,rfl⟩,trivial⟩) sz3 ag3 rfl rfl W (vI H) rfl wz (aa (vB (G==H)) (af ?_))
     rcases aj d with⟨x,d⟩|⟨x,d⟩
     ·refine aB rfl x (ai (aa (dV (au 0) 1 b) (aa (vI c) ?_)))
      obtain ⟨_,h,d⟩:=bind_some d
      replace h:=neL_ne h
      refine gD (v':=(vV (au 0) 1 b)) 0 rfl (Bh h) (gD (v':=(vV (au 0) 1 b)) 11 rfl (Bh h) (gD (v':=(vV (au 0) 1 b)) 16 rfl (Bh h) (gD (v':=(vV (au 0) 1 b)) 20 rfl (Bh h) (gD (v':=(vV (au 0) 1 b)) 26 rfl (Bh h) (AV 0 rfl (gB_cons h) ?_)))))
      obtain ⟨_,T,d⟩:=bind_some d
      refine KE wW sz3 rfl rfl T wz (aa (.vs (au 0) 1 ((c).toNat) (((b.length:Int)).toNat-(c).toNat)) (af (ak (ai (aa (vI 1) (af ?_))))))
      obtain ⟨Ä,B,d⟩:=bind_some d
      obtain ⟨Á,B⟩:=fe B
      refine iA (λ(a:(List Int)×Int×Int)=>[(0,(vV (au 0) 1 a.1)),(3,(vI a.2.1))]) (λ(a:(List Int)×Int×Int)=>[((au 0),some (bV 1 eI a.1))]) (λ(t:Nat)=>(λ(a:(List Int)×Int×Int)=>[(0,(vV (au 0) 1 a.1)),(3,(vI a.2.1)),(4,(.vs (au 0) 1 ((c).toNat) (((b.length:Int)).toNat-(c).toNat))),(5,(vI a.2.2))])) (λs=>fE b c s) Ä Á (b,c,1) B rfl (aJ rfl) ?_ ?_
      ·rintro ⟨t,a⟩ k
       dsimp only at k
       cases t with
       | zero=>cases k
       | succ t =>
        obtain ⟨R,e,k⟩:=bind_some k
        unfold fE at e
        refine ak (ai (aa (vI a.2.2) (aa (.vs (au 0) 1 ((c).toNat) (((b.length:Int)).toNat-(c).toNat)) (h_lenp wW rfl wz (aa (vB (decide (a.2.2<(((((b.length:Int)).toNat-(c).toNat):Nat):Int)))) (af ?_))))))
        rcases aj e with⟨y,e⟩|⟨y,e⟩
        ·refine aB rfl y (ax (ak (aM (ak (bD (aa (.vs (au 0) 1 ((c).toNat) (((b.length:Int)).toNat-(c).toNat)) (aa (vI a.2.2) ?_)))))))
         obtain ⟨_,M,e⟩:=bind_some e
         refine Hq lG rfl rfl (PZ M) (MJ M) wz ?_
         obtain ⟨I,X,e⟩:=bind_some e
         refine NI 3 0 (.inr (by kernel_rfl)) (λ_ _ ag=>trivial) sz3 ag3 rfl rfl X (vI I) rfl wz (aa (.vs (au 0) 1 ((c).toNat) (((b.length:Int)).toNat-(c).toNat)) (aa (vI a.2.2) (aa (vI (w64 (a.2.2-1))) ?_)))
         obtain ⟨_,N,e⟩:=bind_some e
         refine Hq lG rfl rfl (PZ N) (MJ N) wz ?_
         obtain ⟨J,Y,e⟩:=bind_some e
         refine NI 8 0 (.inr (by kernel_rfl)) (λ_ _ ag=>⟨.inl ⟨rfl,rfl⟩,trivial⟩) sz3 ag3 rfl rfl Y (vI J) rfl wz (aa (vB (I != J)) (af ?_))
         obtain ⟨n,f,e⟩:=bind_some e
         refine aP [(0,(vV (au 0) 1 n.1)),(3,(vI n.2)),(4,(.vs (au 0) 1 ((c).toNat) (((b.length:Int)).toNat-(c).toNat))),(5,(vI a.2.2))] [((au 0),some (bV 1 eI n.1))] ?_ ?_
         ·rcases aj f with⟨z,f⟩|⟨z,f⟩
          ·refine aB rfl z (ai (aa (vV (au 0) 1 a.1) (aa (vI a.2.1) (aa (.vs (au 0) 1 ((c).toNat) (((b.length:Int)).toNat-(c).toNat)) (aa (vI a.2.2) ?_)))))
           obtain ⟨_,O,f⟩:=bind_some f
           refine Hq lG rfl rfl (PZ O) (MJ O) wz ?_
           obtain ⟨p,Z,f⟩:=bind_some f
           refine NI 0 0 il ft sz3 ag3 rfl rfl Z (vI p) rfl wz ?_
           obtain ⟨_,P,f⟩:=bind_some f
           refine Hq lG rfl rfl (lC P) (iR P) wz ?_
           obtain ⟨Å,À,f⟩:=bind_some f
           refine h_stv 0 il ft 0 sz3 rfl rfl À p rfl wz (gD (v':=(vV (au 0) 1 (a.1.set (0+(a.2.1).toNat) p))) 0 rfl (Jm (by simp)) (gD (v':=(vV (au 0) 1 (a.1.set (0+(a.2.1).toNat) p))) 45 rfl (Jm (by simp)) (af (av (aa (vI a.2.1) (aa (vI (w64 (a.2.1+1))) (aa (vI (w64 (a.2.1+1))) (af ?_))))))))
           obtain rfl:=ae f
           exact cu
          ·refine aA rfl z (ax ?_)
           obtain rfl:=ae f
           exact cu
         ·rintro ⟨⟩ _ Q F l m
          refine aN _ l m (av (aa (vI a.2.2) (aa (vI (w64 (a.2.2+1))) (aa (vI (w64 (a.2.2+1))) (af ?_)))))
          obtain rfl:=ae e
          exact bf (t,(n.1,n.2,(w64 (a.2.2+1)))) k (ls_ _) rfl (aJ rfl)
        ·refine aA rfl y (bg ?_)
         obtain rfl:=ae e
         obtain rfl:=ae k
         exact aY ((a.1,a.2.1,a.2.2)) rfl rfl (aJ rfl)
      ·rintro a C Q F l m
       subst C
       refine aN _ l m (ai (aa (vV (au 0) 1 a.1) (aa (vI a.2.1) ?_)))
       obtain ⟨_,q,d⟩:=bind_some d
       refine KE wW sz3 rfl rfl q wz (h_clear (i:=0) 0 il ft 0 PO sz3 z3 rfl rfl rfl (by decide) rfl (A7 q) rfl wz (gD (v':=(vV (au 0) 1 (a.1.take ((a.2.1).toNat)++List.replicate (((a.1.length:Int)).toNat-(a.2.1).toNat) 0++a.1.drop (((a.2.1).toNat)+(((a.1.length:Int)).toNat-(a.2.1).toNat))))) 0 rfl (Jm (Hf (A7 q))) (gD (v':=(vV (au 0) 1 (a.1.take ((a.2.1).toNat)++List.replicate (((a.1.length:Int)).toNat-(a.2.1).toNat) 0++a.1.drop (((a.2.1).toNat)+(((a.1.length:Int)).toNat-(a.2.1).toNat))))) 54 rfl (Jm (Hf (A7 q))) (af (ai (aa (vV (au 0) 1 (a.1.take ((a.2.1).toNat)++List.replicate (((a.1.length:Int)).toNat-(a.2.1).toNat) 0++a.1.drop (((a.2.1).toNat)+(((a.1.length:Int)).toNat-(a.2.1).toNat)))) (aa (vI a.2.1) ?_)))))))
       obtain ⟨_,E,d⟩:=bind_some d
       refine QD wW sz3 rfl rfl E wz (aa (.vs (au 0) 1 0 ((a.2.1).toNat)) (af (Jr 0 rfl (G7 0 0 rfl rfl (PH 2 0 rfl rfl (A7 E) (G7 54 0 rfl rfl (G7 57 0 rfl rfl (PH 59 0 rfl rfl (A7 E) (Bf (i:=0) rfl ?_)))))))))
       obtain rfl:=ae d
       obtain rfl:=ae j
       obtain rfl:=ae g
       exact ay (EE (bs:=([]:List Box)) (os:=([]:List Box)) (xs:=b) (o:=none) (.inr rfl) [(vL eI (cutL (a.1.take ((a.2.1).toNat)++List.replicate (((a.1.length:Int)).toNat-(a.2.1).toNat) 0++a.1.drop (((a.2.1).toNat)+(((a.1.length:Int)).toNat-(a.2.1).toNat))) 0 ((a.2.1).toNat)))] ⟨rfl,trivial⟩ rfl rfl rfl rfl rfl (by kernel_rfl) DN rfl)
     ·refine aA rfl x (ax (av (aa (vI c) (aa (vI (w64 (c+1))) (aa (vI (w64 (c+1))) (af ?_))))))
      obtain rfl:=ae d
      exact bf (u,(w64 (c+1))) j (ls_ _) rfl (aJ rfl)
    ·refine aA rfl v (bg ?_)
     obtain rfl:=ae d
     obtain rfl:=ae j
     exact aY (c) rfl rfl (aJ rfl)
  ·rintro c C Q F l m
   subst C
   refine aN _ l m (ai (aa (dV (au 0) 1 b) (aa (dV (au 0) 1 b) (af (ig 0 rfl (zz 0 0 rfl rfl (zz 2 0 rfl rfl (zz 60 0 rfl rfl (Bf (i:=0) rfl ?_)))))))))
   obtain rfl:=ae g
   exact ay (EE (bs:=([]:List Box)) (os:=([]:List Box)) (xs:=b) (o:=none) (.inr rfl) [(vL eI b)] ⟨rfl,trivial⟩ rfl rfl rfl rfl rfl (by kernel_rfl) DN rfl)
theorem Bw {a:Run} {b:Run} {r:Int} (c:uA a b=some r) :
  FnM Tryz.prog 125 [(.d (.agg (Run.enc a))),(.d (.agg (Run.enc b)))] [] (vI r) []:=by
 refine FnM.of_wH ⟨Tryz.prog,10,[],[]⟩ rfl Tryz.func125 rfl rfl (lb_ rfl) (by kernel_rfl) ?_
 unfold uA at c
 refine ai (iW 0 (.inl rfl) [(vI a.f_from),(vI a.f_to)] rfl rfl wz (λe=>iW 0 (.inl rfl) [(vI b.f_from),(vI b.f_to)] rfl rfl wz (λf=>aa (vI 0) (af (ai (aG lw rfl 0 rfl wz (aF 0 0 il ft sz3 ag3 rfl rfl (vI a.f_from) rfl wz (aG lw rfl 0 rfl wz (aF 0 1 il ft sz3 ag3 rfl rfl (vI b.f_from) rfl wz (aa (vI (w64 (a.f_from-b.f_from))) (aa (vI (w64 (a.f_from-b.f_from))) (af ?_))))))))))))
 obtain rfl:=ae c
 exact ay (aK [(vI (w64 (a.f_from-b.f_from)))] ⟨rfl,trivial⟩)
theorem jV {k:(List Run)} {f:Int} {h:Int} {r:(List Run)} (p:bJ k f h=some r) :
  FnM Tryz.prog 187 [(dV (au 0) 2 k),(vI f),(vI h),(.fn 125 [])] (([]:List Box)++gI 2 Run.enc k) (.tup []) (([]:List Box).map some++gT k (gB 2 Run.enc r)):=by
 refine FnM.of_wHv ⟨Tryz.prog,53,[],[]⟩ rfl Tryz.func187 rfl rfl (lb_ rfl) (by kernel_rfl) ?_
 unfold bJ at p
 refine ai (aa (vI f) (aa (vI (w64 (f+1))) (aa (vI (w64 (f+1))) (af ?_))))
 obtain ⟨Z,y,p⟩:=bind_some p
 obtain ⟨Y,y⟩:=fe y
 refine iA (λ(c:(List Run)×Int)=>[]) (λ(c:(List Run)×Int)=>[((au 0),gB 2 Run.enc c.1)]) (λ(u:Nat)=>(λ(c:(List Run)×Int)=>[(0,(dV (au 0) 2 c.1)),(1,(vI f)),(2,(vI h)),(3,(.fn 125 [])),(8,(vI c.2))])) (λs=>bE h f s) Z Y (k,(w64 (f+1))) y rfl (aJ rfl) ?_ ?_
 ·rintro ⟨u,c⟩ l
  dsimp only at l
  cases u with
  | zero=>cases l
  | succ u =>
   obtain ⟨L,j,l⟩:=bind_some l
   unfold bE at j
   refine ak (ai (aa (vI c.2) (aa (vI h) (aa (vB (decide (c.2<h))) (af ?_)))))
   rcases aj j with⟨v,j⟩|⟨v,j⟩
   ·refine aB rfl v (ax (ak (aM (ai (aa (vI c.2) (aa (vI c.2) (af ?_)))))))
    obtain ⟨À,z,j⟩:=bind_some j
    obtain ⟨X,z⟩:=fe z
    refine iA (λ(a:(List Run)×Int)=>[(0,(dV (au 0) 2 a.1)),(1,(vI f)),(2,(vI h)),(3,(.fn 125 [])),(8,(vI c.2))]) (λ(a:(List Run)×Int)=>[((au 0),gB 2 Run.enc a.1)]) (λ(t:Nat)=>(λ(a:(List Run)×Int)=>[(0,(dV (au 0) 2 a.1)),(1,(vI f)),(2,(vI h)),(3,(.fn 125 [])),(8,(vI c.2)),(9,(vI a.2))])) (λs=>bX f s) À X (c.1,c.2) z rfl (aJ rfl) ?_ ?_
    ·rintro ⟨t,a⟩ m
     dsimp only at m
     cases t with
     | zero=>cases m
     | succ t =>
      obtain ⟨L,b,m⟩:=bind_some m
      unfold bX at b
      refine ak (ak ?_)
      obtain ⟨Á,e,b⟩:=bind_some b
      refine aP [(0,(dV (au 0) 2 a.1)),(1,(vI f)),(2,(vI h)),(3,(.fn 125 [])),(8,(vI c.2)),(9,(vI a.2)),(34,(vB Á))] [((au 0),gB 2 Run.enc a.1)] ?_ ?_
      ·refine bD (aa (vI a.2) (aa (vI f) (aa (vB (decide (a.2>f))) ?_)))
       rcases aj e with⟨w,e⟩|⟨w,e⟩
       ·refine aC rfl w wz (aI (.fn 125 []) wa rfl (aI (dV (au 0) 2 a.1) wa rfl (aI (vI a.2) wa rfl ?_)))
        obtain ⟨_,C,e⟩:=bind_some e
        refine oo lL rfl rfl (lC C) (iR C) wa ?_
        obtain ⟨M,P,e⟩:=bind_some e
        refine o8 8 0 (.inr (by kernel_rfl)) (λ_ _ ag=>trivial) oh xH rfl rfl P (.d (.agg (Run.enc M))) rfl wa (aI (dV (au 0) 2 a.1) wa rfl (aI (vI a.2) wa rfl (aI (vI (w64 (a.2-1))) wa rfl ?_)))
        obtain ⟨_,E,e⟩:=bind_some e
        refine oo lL rfl rfl (lC E) (iR E) wa ?_
        obtain ⟨N,Q,e⟩:=bind_some e
        refine o8 13 0 (.inr (by kernel_rfl)) (λ_ _ ag=>⟨.inl ⟨rfl,rfl⟩,trivial⟩) oh xH rfl rfl Q (.d (.agg (Run.enc N))) rfl wa ?_
        obtain ⟨J,O,e⟩:=bind_some e
        refine aD (Bw O) rfl hb125 rfl rfl rfl rfl wa (aI (vB (decide (J<0))) wa rfl (aa (vB (decide (J<0))) (af ?_)))
        obtain rfl:=ae e
        exact cu
       ·refine aC rfl w wz (ah (ah (ah (ah (ah (ah (ah (ah (ah (ah (ah (ah (aa (vB false) (af ?_))))))))))))))
        obtain rfl:=ae e
        exact cu
      ·rintro ⟨⟩ _ K B q n
       refine aN _ q n ?_
       rcases aj b with⟨x,b⟩|⟨x,b⟩
       ·refine aB rfl x (ax (ak (aM (bD (aa (dV (au 0) 2 a.1) (aa (vI a.2) (aa (dV (au 0) 2 a.1) (aa (vI a.2) (aa (vI (w64 (a.2-1))) (aa (dV (au 0) 2 a.1) (aa (vI a.2) (aa (vI (w64 (a.2-1))) ?_))))))))))))
        obtain ⟨_,F,b⟩:=bind_some b
        refine oo lL rfl rfl (lC F) (iR F) wz ?_
        obtain ⟨g,R,b⟩:=bind_some b
        refine o8 9 0 (.inr (by kernel_rfl)) (λ_ _ ag=>trivial) oh xH rfl rfl R (.d (.agg (Run.enc g))) rfl wz (aa (dV (au 0) 2 a.1) (aa (vI a.2) ?_))
        obtain ⟨_,G,b⟩:=bind_some b
        refine oo lL rfl rfl (lC G) (iR G) wz ?_
        obtain ⟨i,T,b⟩:=bind_some b
        refine o8 13 0 (.inr (by kernel_rfl)) (λ_ _ ag=>⟨.inl ⟨rfl,rfl⟩,trivial⟩) oh xH rfl rfl T (.d (.agg (Run.enc i))) rfl wz ?_
        obtain ⟨_,H,b⟩:=bind_some b
        refine oo lL rfl rfl (lC H) (iR H) wz ?_
        obtain ⟨Â,U,b⟩:=bind_some b
        refine BB 15 (.inr (by kernel_rfl)) (λ_ _ ag=>⟨.inr (.inr (by kernel_rfl)),⟨.inr (.inr (by kernel_rfl)),trivial⟩⟩) 0 oh rfl rfl U g rfl wz (gD (v':=(dV (au 0) 2 (a.1.set (0+(a.2).toNat) g))) 0 rfl (fO (by simp)) (gD (v':=(dV (au 0) 2 (a.1.set (0+(a.2).toNat) g))) 37 rfl (fO (by simp)) (gD (v':=(dV (au 0) 2 (a.1.set (0+(a.2).toNat) g))) 39 rfl (fO (by simp)) (gD (v':=(dV (au 0) 2 (a.1.set (0+(a.2).toNat) g))) 42 rfl (fO (by simp)) (gD (v':=(dV (au 0) 2 (a.1.set (0+(a.2).toNat) g))) 47 rfl (fO (by simp)) ?_)))))
        obtain ⟨_,I,b⟩:=bind_some b
        refine oo lL rfl rfl (lC I) (iR I) wz ?_
        obtain ⟨Ã,W,b⟩:=bind_some b
        refine BB 17 (.inr (by kernel_rfl)) (λ_ _ ag=>⟨.inr (.inr (by kernel_rfl)),⟨.inr (.inr (by kernel_rfl)),⟨.inr (.inr (by kernel_rfl)),trivial⟩⟩⟩) 0 oh rfl rfl W i rfl wz (gD (v':=(dV (au 0) 2 ((a.1.set (0+(a.2).toNat) g).set (0+((w64 (a.2-1))).toNat) i))) 0 rfl (fO (by simp)) (gD (v':=(dV (au 0) 2 ((a.1.set (0+(a.2).toNat) g).set (0+((w64 (a.2-1))).toNat) i))) 37 rfl (fO (by simp)) (gD (v':=(dV (au 0) 2 ((a.1.set (0+(a.2).toNat) g).set (0+((w64 (a.2-1))).toNat) i))) 39 rfl (fO (by simp)) (gD (v':=(dV (au 0) 2 ((a.1.set (0+(a.2).toNat) g).set (0+((w64 (a.2-1))).toNat) i))) 42 rfl (fO (by simp)) (gD (v':=(dV (au 0) 2 ((a.1.set (0+(a.2).toNat) g).set (0+((w64 (a.2-1))).toNat) i))) 47 rfl (fO (by simp)) (af (av (aa (vI a.2) (aa (vI (w64 (a.2-1))) (aa (vI (w64 (a.2-1))) (af ?_)))))))))))
        obtain rfl:=ae b
        exact bf (t,(((a.1.set (0+(a.2).toNat) g).set (0+((w64 (a.2-1))).toNat) i),(w64 (a.2-1)))) m (ls_ _) rfl (aJ rfl)
       ·refine aA rfl x (bg ?_)
        obtain rfl:=ae b
        obtain rfl:=ae m
        exact aY ((a.1,a.2)) rfl rfl (aJ rfl)
    ·rintro a A K B q n
     subst A
     refine aN _ q n (av (aa (vI c.2) (aa (vI (w64 (c.2+1))) (aa (vI (w64 (c.2+1))) (af ?_)))))
     obtain rfl:=ae j
     exact bf (u,(a.1,(w64 (c.2+1)))) l (ls_ _) rfl (aJ rfl)
   ·refine aA rfl v (bg ?_)
    obtain rfl:=ae j
    obtain rfl:=ae l
    exact aY ((c.1,c.2)) rfl rfl (aJ rfl)
 ·rintro c A K B q n
  subst A
  show vF _ _ _ _ _ _ _ _
  obtain rfl:=ae p
  exact DK (H0:=([((au 0),gB 2 Run.enc c.1)]:Hp)) (sl':=envS []) n (EE (bs:=([]:List Box)) (os:=([]:List Box)) (xs:=k) (o:=gB 2 Run.enc c.1) (.inl rfl) [] trivial rfl rfl rfl rfl rfl (by kernel_rfl) rF rfl)
theorem mo {a:(List Run)} {c:Int} {d:Int} {e:Int} {r:(List Run)} (f:cO a c d e=some r) :
  FnM Tryz.prog 163 [(dV (au 0) 2 a),(vI c),(vI d),(vI e),(.fn 125 [])] (([]:List Box)++gI 2 Run.enc a) (.tup []) (([]:List Box).map some++gT a (gB 2 Run.enc r)):=by
 refine FnM.of_wHv ⟨Tryz.prog,148,[],[]⟩ rfl Tryz.func163 rfl rfl (lb_ rfl) (by kernel_rfl) ?_
 unfold cO at f
 refine ai (aa (vB true) (af (ai (aa (vB true) (af ?_)))))
 obtain ⟨v,m,f⟩:=bind_some f
 obtain ⟨u,m⟩:=fe m
 refine iA (λ(j:Unit)=>[]) (λ(j:Unit)=>[((au 0),gB 2 Run.enc a)]) (λ(n:Nat)=>(λ(j:Unit)=>[(0,(dV (au 0) 2 a)),(1,(vI c)),(2,(vI d)),(3,(vI e)),(4,(.fn 125 [])),(10,(vB true)),(11,(vB true))])) (λs=>bW d c a e s) v u () m rfl (aJ rfl) ?_ ?_
 ·rintro ⟨n,j⟩ g
  dsimp only at g
  cases n with
  | zero=>cases g
  | succ n =>
   obtain ⟨x,b,g⟩:=bind_some g
   unfold bW at b
   refine aM (ai (aa (vI d) (aa (vI c) (aa (vI (w64 (d-c))) (aa (vI (w64 (d-c))) (af (ak (ai (aa (vI (w64 (d-c))) (aa (vB (decide ((w64 (d-c))<=12))) (af ?_)))))))))))
   rcases aj b with⟨k,b⟩|⟨k,b⟩
   ·refine aB rfl k (ai (aa (dV (au 0) 2 a) (aa (vI c) (aa (vI d) (aa (.fn 125 []) ?_)))))
    obtain ⟨i,t,b⟩:=bind_some b
    obtain ⟨_,h,b⟩:=bind_some b
    replace h:=sV h
    refine ug 0 [] 0 0 il ft (jV t) rfl hb187 rfl rfl rfl (by kernel_rfl) rfl (.inr (.inl rfl)) rfl (by kernel_rfl) (by kernel_rfl) (by kernel_rfl) (by kernel_rfl) rfl (by decide) (by kernel_rfl) rF (EG h) wz ([((au 0),gB 2 Run.enc i)]:Hp) (by kernel_rfl) (gD (v':=(dV (au 0) 2 i)) 0 rfl (fO h.symm) (gD (v':=(dV (au 0) 2 i)) 26 rfl (fO h.symm) (af ?_)))
    obtain rfl:=ae b
    obtain rfl:=ae g
    obtain rfl:=ae f
    exact ay (EE (bs:=([]:List Box)) (os:=([]:List Box)) (xs:=a) (o:=gB 2 Run.enc i) (.inr rfl) [] trivial rfl rfl rfl rfl rfl (by kernel_rfl) rF rfl)
   ·refine aA rfl k (ax (ak (ai (aa (vI e) (aa (vB (e==0)) (af ?_))))))
    rcases aj b with⟨l,b⟩|⟨l,b⟩
    ·refine aB rfl l (ai (aa (dV (au 0) 2 a) (aa (vI c) (aa (vI d) (aa (.fn 125 []) ?_)))))
     cases b
    ·refine aA rfl l (ax (ak (ai (aa (vB true) (aa (vB false) (af (aA rfl rfl (ax (ai (aa (dV (au 0) 2 a) (aa (vI c) (aa (vI d) (aa (.fn 125 []) ?_)))))))))))))
     cases b
 ·rintro j p z w y q
  subst p
  show vF _ _ _ _ _ _ _ _
  obtain rfl:=ae f
  exact DK (H0:=([((au 0),gB 2 Run.enc a)]:Hp)) (sl':=envS []) q (EE (bs:=([]:List Box)) (os:=([]:List Box)) (xs:=a) (o:=gB 2 Run.enc a) (.inl rfl) [] trivial rfl rfl rfl rfl rfl (by kernel_rfl) rF rfl)
theorem kr {a:(List Run)} {r:(List Run)} (b:bK a=some r) :
  FnM Tryz.prog 124 [(dV (au 0) 2 a),(.fn 125 [])] (([]:List Box)++gI 2 Run.enc a) (.tup []) (([]:List Box).map some++gT a (gB 2 Run.enc r)):=by
 refine FnM.of_wHv ⟨Tryz.prog,14,[],[]⟩ rfl Tryz.func124 rfl rfl (lb_ rfl) (by kernel_rfl) ?_
 unfold bK at b
 refine ai (aa (dV (au 0) 2 a) (I5 y8 rfl wz (aa (vI (a.length:Int)) (af (av (aa (dV (au 0) 2 a) (aa (vI (a.length:Int)) (aa (vI (a.length:Int)) (xJ un3 un93 rfl wz ?_)))))))))
 obtain ⟨g,e,b⟩:=bind_some b
 refine aD (uE e) rfl hb36 rfl rfl rfl rfl wz (aa (.fn 125 []) ?_)
 obtain ⟨d,f,b⟩:=bind_some b
 obtain ⟨_,c,b⟩:=bind_some b
 replace c:=sV c
 refine ug 0 [] 0 0 il ft (mo f) rfl hb163 rfl rfl rfl (by kernel_rfl) rfl (.inr (.inl rfl)) rfl (by kernel_rfl) (by kernel_rfl) (by kernel_rfl) (by kernel_rfl) rfl (by decide) (by kernel_rfl) rF (EG c) wz ([((au 0),gB 2 Run.enc d)]:Hp) (by kernel_rfl) (gD (v':=(dV (au 0) 2 d)) 0 rfl (fO c.symm) (gD (v':=(dV (au 0) 2 d)) 5 rfl (fO c.symm) (gD (v':=(dV (au 0) 2 d)) 7 rfl (fO c.symm) (af ?_))))
 show vF _ _ _ _ _ _ _ _
 obtain rfl:=ae b
 exact EE (bs:=([]:List Box)) (os:=([]:List Box)) (xs:=a) (o:=gB 2 Run.enc d) (.inl rfl) [] trivial rfl rfl rfl rfl rfl (by kernel_rfl) rF rfl
theorem xC {j:(List Rect)} {o:Int} {r:(List Run)} (q:nW j o=some r) :
  FnM Tryz.prog 91 [(vL Rect.enc j),(vI o)] [] (vL Run.enc r) []:=by
 refine FnM.of_wH ⟨Tryz.prog,84,[],[]⟩ rfl Tryz.func91 rfl rfl (lb_ rfl) (by kernel_rfl) ?_
 unfold nW at q
 refine ai (aa .nil (af (ai (aa .nil (af (ak (ai (aa (vL Rect.enc j) (bL yX rfl wz (aa (vI 0) (af (mR (λÛ => ?_)))))))))))))
 obtain ⟨Ü,À,q⟩:=bind_some q
 obtain ⟨Ò,À⟩:=aZ À
 refine iq (σ:=(List Run)) (N:=Nm) (λp=>(λ(l:List Run) (e:Nm)=>([(5,(gV e 2 l))]:SL_)) p.1 p.2) (λp=>(λ(l:List Run) (e:Nm)=>([(e,gB 2 Run.enc l)]:Hp)) p.1 p.2) (λ(u:Nat)=>(λp=>(λ(l:List Run) (e:Nm)=>([(1,(vI o)),(5,(gV e 2 l)),(12,(vL Rect.enc j)),(13,(vI (j.length:Int))),(14,(vI (u:Int)))]:SL_)) p.1 p.2)) (λk x s=>oW o k x s) Ü j (([]:List Run),Û) À rfl (aJ rfl) ?_ ?_
 ·rintro ⟨u,Ä,l,e⟩ ⟨G,B⟩
  dsimp only at G B
  cases Ä with
  | nil =>
   obtain rfl:=ae G
   refine ai (aa (vB (decide ((u:Int)<(j.length:Int)))) (af ?_))
   refine ak (aA rfl (drop_nil B) (bg ?_))
   exact aY (l,e) rfl rfl (aJ rfl)
  | cons b Ä =>
   obtain ⟨Ð,C,G⟩:=bind_some G
   refine ai (aa (vB (decide ((u:Int)<(j.length:Int)))) (af ?_))
   refine ak (aB rfl (bz B) (ax ?_))
   unfold oW at C
   refine ak (aM (ai (dC BI rfl rfl (bI B) rfl wz (bC qw EJ rfl (.d (.agg (Rect.enc b))) rfl wz (dP 0 (.inl rfl) z47 rfl wz (λÅ=>gy 0 il ft 1 qw rfl rfl (Rect.v b) rfl wz (af (ak ?_))))))))
   obtain ⟨Þ,J,C⟩:=bind_some C
   refine aP [(1,(vI o)),(5,(gV e 2 l)),(7,(.ref Å 0 0)),(12,(vL Rect.enc j)),(13,(vI (j.length:Int))),(14,(vI (u:Int))),(30,(vB Þ))] [(e,gB 2 Run.enc l),(Å,some (.cells 4 (Rect.v b)))] ?_ ?_
   ·refine av (aG uu rfl 1 rfl wz (aF 0 1 il ft sz3 ag3 rfl rfl (vI b.Y) rfl wz (aa (vI o) (aa (vB (decide (b.Y<=o))) ?_))))
    rcases aj J with⟨R,J⟩|⟨R,J⟩
    ·refine aC rfl R wz (aI (vI o) wa rfl (aG uu rfl 1 rfl wa (aF 0 1 il ft sz3 ag3 rfl rfl (vI b.Y) rfl wa (aG zx rfl 3 rfl wa (aF 0 1 il ft sz3 ag3 rfl rfl (vI b.H) rfl wa (aI (vI (w64 (b.Y+b.H))) wa rfl (aI (vB (decide (o<(w64 (b.Y+b.H))))) wa rfl (aa (vB (decide (o<(w64 (b.Y+b.H))))) (af ?_)))))))))
     obtain rfl:=ae J
     exact cu
    ·refine aC rfl R wz (ah (ah (ah (ah (ah (ah (ah (aa (vB false) (af ?_)))))))))
     obtain rfl:=ae J
     exact cu
   ·rintro ⟨⟩ _ O F m n
    refine aN _ m n ?_
    obtain ⟨Ç,y,C⟩:=bind_some C
    refine lD (β:=Nm) (λ(L:Nm)=>([(1,(vI o)),(5,(gV L 2 Ç)),(12,(vL Rect.enc j)),(13,(vI (j.length:Int))),(14,(vI (u:Int)))]:SL_)) (λ(L:Nm)=>([(L,gB 2 Run.enc Ç),(Å,some (.cells 4 (Rect.v b)))]:Hp)) (λ_=>True) ?_ ?_
    ·rcases aj y with⟨T,y⟩|⟨T,y⟩
     ·refine aB rfl T (av (aa (gV e 2 l) (aG xw rfl 0 rfl wz (aF 0 1 il ft sz3 ag3 rfl rfl (vI b.X) rfl wz (aG xw rfl 0 rfl wz (aF 0 1 il ft sz3 ag3 rfl rfl (vI b.X) rfl wz (aG BH rfl 2 rfl wz (aF 0 1 il ft sz3 ag3 rfl rfl (vI b.W) rfl wz (aa (vI (w64 (b.X+b.W))) (aI (.d (.agg (Run.enc (⟨b.X,(w64 (b.X+b.W))⟩:Run)))) wz (by kernel_rfl) (eD (([(⟨b.X,(w64 (b.X+b.W))⟩:Run)]:List Run).map Run.enc) lL Oc rfl rfl rfl rfl rfl wz ?_)))))))))))
      obtain ⟨Î,Ø,y⟩:=bind_some y
      refine kY 0 il ft (i:=0) CL CL oh z152 rfl (by decide) Nt (by decide) (λ_=>rfl) rfl rfl rfl Ø wz (λÌ=>aa (gV Ì 2 Î) (af ?_))
      obtain rfl:=ae y
      exact aY Ì trivial rfl (aJ rfl)
     ·refine aA rfl T (ax ?_)
      obtain rfl:=ae y
      exact aY e trivial rfl (aJ rfl)
    ·rintro L _ O F m n
     refine aN _ m n (av (fC (bG B Ò) wz rfl (aa (vI ((u+1:Nat):Int)) (af ?_))))
     obtain rfl:=ae C
     exact bf (u+1,Ä,Ç,L) ⟨G,aW B⟩ (ls_ _) rfl (aJ rfl)
 ·rintro ⟨l,e⟩ Â O F m n
  subst Â
  refine aN _ m n (ai (aa (gV e 2 l) ?_))
  obtain ⟨g,Ó,q⟩:=bind_some q
  obtain ⟨_,K,q⟩:=bind_some q
  replace K:=sV K
  refine ug 0 [] 0 0 il ft (kr Ó) rfl hb124 rfl rfl rfl (by kernel_rfl) rfl (.inl rfl) rfl (by kernel_rfl) (by kernel_rfl) (by kernel_rfl) (by kernel_rfl) rfl (by decide) (by kernel_rfl) rF (EG K) wz ([(e,gB 2 Run.enc g)]:Hp) (by kernel_rfl) (gD (v':=(gV e 2 g)) 43 rfl (l6 K.symm) (gD (v':=(gV e 2 g)) 5 rfl (l6 K.symm) (af (ai (aa .nil (af (ak (ai (aa (gV e 2 g) (rG y8 rfl wz (aa (vI 0) (af (ig 0 rfl (fT 5 0 rfl rfl (fT 43 0 rfl rfl (fT 45 0 rfl rfl (mR (λÚ => ?_))))))))))))))))))
  obtain ⟨Ý,Á,q⟩:=bind_some q
  obtain ⟨Ñ,Á⟩:=aZ Á
  refine iq (σ:=(List Run)) (N:=Nm) (λp=>(λ(a:List Run) (c:Nm)=>([(8,(gV c 2 a))]:SL_)) p.1 p.2) (λp=>(λ(a:List Run) (c:Nm)=>([(e,gF 2 Run.enc g),(c,gB 2 Run.enc a)]:Hp)) p.1 p.2) (λ(w:Nat)=>(λp=>(λ(a:List Run) (c:Nm)=>([(8,(gV c 2 a)),(45,(vL Run.enc g)),(46,(vI (g.length:Int))),(47,(vI (w:Int)))]:SL_)) p.1 p.2)) (λk x s=>ow k x s) Ý g (([]:List Run),Ú) Á rfl (aJ rfl) ?_ ?_
  ·rintro ⟨w,Ã,a,c⟩ ⟨I,A⟩
   dsimp only at I A
   cases Ã with
   | nil =>
    obtain rfl:=ae I
    refine ai (aa (vB (decide ((w:Int)<(g.length:Int)))) (af ?_))
    refine ak (aA rfl (drop_nil A) (bg ?_))
    exact aY (a,c) rfl rfl (aJ rfl)
   | cons f Ã =>
    obtain ⟨Ð,E,I⟩:=bind_some I
    refine ai (aa (vB (decide ((w:Int)<(g.length:Int)))) (af ?_))
    refine ak (aB rfl (bz A) (ax ?_))
    unfold ow at E
    refine ak (aM (ai (dC lL rfl rfl (bI A) rfl wz (bC oh xH rfl (.d (.agg (Run.enc f))) rfl wz (dP 0 (.inl rfl) z152 rfl wz (λÆ=>gy 0 il ft 2 oh rfl rfl [(vI f.f_from),(vI f.f_to)] rfl wz (af (ai (aa (gV c 2 a) (rG y8 rfl wz (aa (vI (w64 ((a.length:Int)-1))) (aa (vI (w64 ((a.length:Int)-1))) (af (ak ?_))))))))))))))
    obtain ⟨ß,t,E⟩:=bind_some E
    refine aP [(8,(gV c 2 a)),(10,(.ref Æ 0 0)),(11,(vI (w64 ((a.length:Int)-1)))),(45,(vL Run.enc g)),(46,(vI (g.length:Int))),(47,(vI (w:Int))),(65,(vB ß))] [(e,gF 2 Run.enc g),(c,gB 2 Run.enc a),(Æ,some (.cells 2 [(vI f.f_from),(vI f.f_to)]))] ?_ ?_
    ·refine bD (aa (vI (w64 ((a.length:Int)-1))) (aa (vB (decide ((w64 ((a.length:Int)-1))>=0))) ?_))
     rcases aj t with⟨U,t⟩|⟨U,t⟩
     ·refine aC rfl U wz (aG lw rfl 0 rfl wa (aF 4 2 (.inr (by kernel_rfl)) (λ_ _ ag=>trivial) sz3 ag3 rfl rfl (vI f.f_from) rfl wa (aI (gV c 2 a) wa rfl (aI (vI (w64 ((a.length:Int)-1))) wa rfl ?_))))
      obtain ⟨_,É,t⟩:=bind_some t
      refine vo lL rfl rfl (lC É) (iR É) wa (aG qX rfl 1 rfl wa ?_)
      obtain ⟨Q,Ô,t⟩:=bind_some t
      refine o8 9 1 (.inr (by kernel_rfl)) (λ_ _ ag=>⟨.inl ⟨rfl,rfl⟩,trivial⟩) sz3 ag3 rfl rfl Ô (vI Q.f_to) rfl wa (aI (vB (decide (f.f_from<=Q.f_to))) wa rfl (aa (vB (decide (f.f_from<=Q.f_to))) (af ?_)))
      obtain rfl:=ae t
      exact cu
     ·refine aC rfl U wz (ah (ah (ah (ah (ah (ah (ah (ah (aa (vB false) (af ?_))))))))))
      obtain rfl:=ae t
      exact cu
    ·rintro ⟨⟩ _ O F m n
     refine aN _ m n ?_
     obtain ⟨È,h,E⟩:=bind_some E
     refine lD (β:=Nm) (λ(M:Nm)=>([(8,(gV M 2 È)),(45,(vL Run.enc g)),(46,(vI (g.length:Int))),(47,(vI (w:Int)))]:SL_)) (λ(M:Nm)=>([(e,gF 2 Run.enc g),(M,gB 2 Run.enc È),(Æ,some (.cells 2 [(vI f.f_from),(vI f.f_to)]))]:Hp)) (λ_=>True) ?_ ?_
     ·rcases aj h with⟨Z,h⟩|⟨Z,h⟩
      ·refine aB rfl Z (bD (aa (gV c 2 a) (aa (vI (w64 ((a.length:Int)-1))) (aa (gV c 2 a) (aa (vI (w64 ((a.length:Int)-1))) ?_)))))
       obtain ⟨_,Ê,h⟩:=bind_some h
       refine vo lL rfl rfl (lC Ê) (iR Ê) wz (aG qX rfl 1 rfl wz ?_)
       obtain ⟨z,Õ,h⟩:=bind_some h
       refine o8 6 1 (.inr (by kernel_rfl)) (λ_ _ ag=>trivial) sz3 ag3 rfl rfl Õ (vI z.f_to) rfl wz (aG qX rfl 1 rfl wz (aF 8 2 (.inr (by kernel_rfl)) (λ_ _ ag=>⟨.inl ⟨rfl,rfl⟩,trivial⟩) sz3 ag3 rfl rfl (vI f.f_to) rfl wz (uD (vI (uQ z.f_to f.f_to)) rfl (.inr rfl) wz ?_)))
       obtain ⟨_,Ë,h⟩:=bind_some h
       refine vo lL rfl rfl (lC Ë) (iR Ë) wz (aG qX rfl 1 rfl wz ?_)
       obtain ⟨P,Ö,h⟩:=bind_some h
       refine BB 12 (.inr (by kernel_rfl)) (λ_ _ ag=>⟨.inr (.inr (by kernel_rfl)),⟨.inr (.inr (by kernel_rfl)),trivial⟩⟩) 1 sz3 rfl rfl Ö (⟨P.f_from,(uQ z.f_to f.f_to)⟩:Run) rfl wz (gD (v':=(gV c 2 (a.set (0+((w64 ((a.length:Int)-1))).toNat) (⟨P.f_from,(uQ z.f_to f.f_to)⟩:Run)))) 8 rfl (l6 (by simp)) (gD (v':=(gV c 2 (a.set (0+((w64 ((a.length:Int)-1))).toNat) (⟨P.f_from,(uQ z.f_to f.f_to)⟩:Run)))) 66 rfl (l6 (by simp)) (gD (v':=(gV c 2 (a.set (0+((w64 ((a.length:Int)-1))).toNat) (⟨P.f_from,(uQ z.f_to f.f_to)⟩:Run)))) 68 rfl (l6 (by simp)) (af ?_))))
       obtain rfl:=ae h
       exact aY c trivial rfl (aJ rfl)
      ·refine aA rfl Z (av (aa (gV c 2 a) (aF 0 2 il ft oh xH rfl rfl (.d (.agg (Run.enc f))) rfl wz (eD (([f]:List Run).map Run.enc) lL Oc rfl rfl rfl rfl rfl wz ?_))))
       obtain ⟨Ï,Ù,h⟩:=bind_some h
       refine kY 0 il ft (i:=1) CL CL oh z152 rfl (by decide) Nt (by decide) (λ_=>rfl) rfl rfl rfl Ù wz (λÍ=>aa (gV Í 2 Ï) (af ?_))
       obtain rfl:=ae h
       exact aY Í trivial rfl (aJ rfl)
     ·rintro M _ O F m n
      refine aN _ m n (av (fC (bG A Ñ) wz rfl (aa (vI ((w+1:Nat):Int)) (af ?_))))
      obtain rfl:=ae E
      exact bf (w+1,Ã,È,M) ⟨I,aW A⟩ (ls_ _) rfl (aJ rfl)
  ·rintro ⟨a,c⟩ Â O F m n
   subst Â
   refine aN _ m n (ai (aa (gV c 2 a) (aa (gV c 2 a) (af (ig 1 rfl (fT 4 1 rfl rfl (fT 8 1 rfl rfl (fT 83 1 rfl rfl ?_))))))))
   obtain rfl:=ae q
   exact ay (aK [(vL Run.enc a)] ⟨rfl,trivial⟩)
end Go.Proofs.YtljhfffghjclfabGreatDoor.Law

