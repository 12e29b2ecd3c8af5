/-
 The machine computes these plain functions (written by a program of ours).
-/
import Derived.Test.YtljhfffghjclfabGreatDoorFacts
import Derived.Test.YtljhfffghjclfabGreatDoorDefs
import Derived.Test.YtljhfffghjclfabGreatDoorPf3
open Go Go.Eng Go.Proofs
namespace Go.Proofs.YtljhfffghjclfabGreatDoor.Law
set_option maxRecDepth 100000
set_option linter.unusedVariables false
set_option maxHeartbeats 1000000
theorem F8 {c:(List Run)} {f:(List Run)} {r:(List Run)} (O:qg c f=some r) :
  FnM Tryz.prog 90 [(vL Run.enc c),(vL Run.enc f)] [] (vL Run.enc r) []:=by
 refine FnM.of_wH ⟨Tryz.prog,88,[],[]⟩ rfl Tryz.func90 rfl rfl (lb_ rfl) (by kernel_rfl) ?_
 unfold qg at O
 refine ai (aa .nil (af (ai (aa .nil (af (ai (aa (vI 0) (af (ak (ai (aa (vL Run.enc c) (bL y8 rfl wz (aa (vI 0) (af (mR (λÔ => ?_))))))))))))))))
 obtain ⟨Ø,Á,O⟩:=bind_some O
 obtain ⟨Ì,Á⟩:=aZ Á
 refine iq (σ:=(List Run)×Int) (N:=Nm) (λp=>(λ(g:(List Run)×Int) (h:Nm)=>([(5,(gV h 2 g.1))]:SL_)) p.1 p.2) (λp=>(λ(g:(List Run)×Int) (h:Nm)=>([(h,gB 2 Run.enc g.1)]:Hp)) p.1 p.2) (λ(l:Nat)=>(λp=>(λ(g:(List Run)×Int) (h:Nm)=>([(1,(vL Run.enc f)),(5,(gV h 2 g.1)),(6,(vI g.2)),(10,(vL Run.enc c)),(11,(vI (c.length:Int))),(12,(vI (l:Int)))]:SL_)) p.1 p.2)) (λk x s=>lW f k x s) Ø c ((([]:List Run),0),Ô) Á rfl (aJ rfl) ?_ ?_
 ·rintro ⟨l,Ä,g,h⟩ ⟨G,B⟩
  dsimp only at G B
  cases Ä with
  | nil =>
   obtain rfl:=ae G
   refine ai (aa (vB (decide ((l:Int)<(c.length:Int)))) (af ?_))
   refine ak (aA rfl (drop_nil B) (bg ?_))
   exact aY (g,h) rfl rfl (aJ rfl)
  | cons b Ä =>
   obtain ⟨Ç,u,G⟩:=bind_some G
   refine ai (aa (vB (decide ((l:Int)<(c.length:Int)))) (af ?_))
   refine ak (aB rfl (bz B) (ax ?_))
   unfold lW at u
   refine ak (aM (ai (dC lL rfl rfl (bI B) rfl wz (bC oh xH rfl (.d (.agg (Run.enc b))) rfl wz (dP 0 (.inl rfl) z152 rfl wz (λq=>gy 0 il ft 1 oh rfl rfl [(vI b.f_from),(vI b.f_to)] rfl wz (af (ak ?_))))))))
   obtain ⟨Ù,Â,u⟩:=bind_some u
   obtain ⟨Ö,Â⟩:=fe Â
   refine iA (λ(e:Int)=>[(1,(vL Run.enc f)),(5,(gV h 2 g.1)),(6,(vI e)),(8,(.ref q 0 0)),(10,(vL Run.enc c)),(11,(vI (c.length:Int))),(12,(vI (l:Int)))]) (λ(e:Int)=>[(h,gB 2 Run.enc g.1),(q,some (.cells 2 [(vI b.f_from),(vI b.f_to)]))]) (λ(P:Nat)=>(λ(e:Int)=>[(1,(vL Run.enc f)),(5,(gV h 2 g.1)),(6,(vI e)),(8,(.ref q 0 0)),(10,(vL Run.enc c)),(11,(vI (c.length:Int))),(12,(vI (l:Int)))])) (λs=>oq f b s) Ù Ö g.2 Â rfl (aJ rfl) ?_ ?_
   ·rintro ⟨P,e⟩ C
    dsimp only at C
    cases P with
    | zero=>cases C
    | succ P =>
     obtain ⟨Ç,v,C⟩:=bind_some C
     unfold oq at v
     refine ak (ak ?_)
     obtain ⟨Û,w,v⟩:=bind_some v
     refine aP [(1,(vL Run.enc f)),(5,(gV h 2 g.1)),(6,(vI e)),(8,(.ref q 0 0)),(10,(vL Run.enc c)),(11,(vI (c.length:Int))),(12,(vI (l:Int))),(29,(vB Û))] [(h,gB 2 Run.enc g.1),(q,some (.cells 2 [(vI b.f_from),(vI b.f_to)]))] ?_ ?_
     ·refine bD (aa (vI e) (aa (vL Run.enc f) (bL y8 rfl wz (aa (vB (decide (e<(f.length:Int)))) ?_))))
      rcases aj w with⟨U,w⟩|⟨U,w⟩
      ·refine aC rfl U wz (aI (vL Run.enc f) wa rfl (aI (vI e) wa rfl ?_))
       obtain ⟨R,Í,w⟩:=bind_some w
       refine dC lL rfl rfl Í rfl wa (si qX rfl [.int .i64 R.f_to] rfl rfl wa (bC sz3 ag3 rfl (vI R.f_to) rfl wa (aG lw rfl 0 rfl wa (aF 11 1 (.inr (by kernel_rfl)) (λ_ _ ag=>trivial) sz3 ag3 rfl rfl (vI b.f_from) rfl wa (aI (vB (decide (R.f_to<=b.f_from))) wa rfl (aa (vB (decide (R.f_to<=b.f_from))) (af ?_)))))))
       obtain rfl:=ae w
       exact cu
      ·refine aC rfl U wz (ah (ah (ah (ah (ah (ah (ah (ah (aa (vB false) (af ?_))))))))))
       obtain rfl:=ae w
       exact cu
     ·rintro ⟨⟩ _ F A n o
      refine aN _ n o ?_
      rcases aj v with⟨W,v⟩|⟨W,v⟩
      ·refine aB rfl W (ax (aM (av (aa (vI e) (aa (vI (w64 (e+1))) (aa (vI (w64 (e+1))) (af ?_)))))))
       obtain rfl:=ae v
       exact bf (P,(w64 (e+1))) C (ls_ _) rfl (aJ rfl)
      ·refine aA rfl W (bg ?_)
       obtain rfl:=ae v
       obtain rfl:=ae C
       exact aY (e) rfl rfl (aJ rfl)
   ·rintro e H F A n o
    subst H
    refine aN _ n o (ak (ai (aa (vI e) (aa (vI e) (af ?_)))))
    obtain ⟨Ú,Ã,u⟩:=bind_some u
    obtain ⟨Õ,Ã⟩:=fe Ã
    refine Kk (σ:=(List Run)×Int×Int) (N:=Nm) (λp=>(λ(a:(List Run)×Int×Int) (m:Nm)=>([(1,(vL Run.enc f)),(5,(gV m 2 a.1)),(6,(vI e)),(8,(.ref q 0 0)),(10,(vL Run.enc c)),(11,(vI (c.length:Int))),(12,(vI (l:Int)))]:SL_)) p.1 p.2) (λp=>(λ(a:(List Run)×Int×Int) (m:Nm)=>([(m,gB 2 Run.enc a.1),(q,some (.cells 2 [(vI a.2.2),(vI b.f_to)]))]:Hp)) p.1 p.2) (λ(Q:Nat)=>(λp=>(λ(a:(List Run)×Int×Int) (m:Nm)=>([(1,(vL Run.enc f)),(5,(gV m 2 a.1)),(6,(vI e)),(8,(.ref q 0 0)),(9,(vI a.2.1)),(10,(vL Run.enc c)),(11,(vI (c.length:Int))),(12,(vI (l:Int)))]:SL_)) p.1 p.2)) (λs=>oQ f b s) Ú Õ ((g.1,e,b.f_from),h) Ã rfl (aJ rfl) ?_ ?_
    ·rintro ⟨Q,a,m⟩ E
     dsimp only at E
     cases Q with
     | zero=>cases E
     | succ Q =>
      obtain ⟨Ç,j,E⟩:=bind_some E
      unfold oQ at j
      refine ak (ak ?_)
      obtain ⟨Ü,y,j⟩:=bind_some j
      refine aP [(1,(vL Run.enc f)),(5,(gV m 2 a.1)),(6,(vI e)),(8,(.ref q 0 0)),(9,(vI a.2.1)),(10,(vL Run.enc c)),(11,(vI (c.length:Int))),(12,(vI (l:Int))),(46,(vB Ü))] [(m,gB 2 Run.enc a.1),(q,some (.cells 2 [(vI a.2.2),(vI b.f_to)]))] ?_ ?_
      ·refine bD (aa (vI a.2.1) (aa (vL Run.enc f) (bL y8 rfl wz (aa (vB (decide (a.2.1<(f.length:Int)))) ?_))))
       rcases aj y with⟨X,y⟩|⟨X,y⟩
       ·refine aC rfl X wz (aI (vL Run.enc f) wa rfl (aI (vI a.2.1) wa rfl ?_))
        obtain ⟨K,Î,y⟩:=bind_some y
        refine dC lL rfl rfl Î rfl wa (si lw rfl [.int .i64 K.f_from,.int .i64 K.f_to] rfl rfl wa (bC sz3 ag3 rfl (vI K.f_from) rfl wa (aG qX rfl 1 rfl wa (aF 11 1 (.inr (by kernel_rfl)) (λ_ _ ag=>trivial) sz3 ag3 rfl rfl (vI b.f_to) rfl wa (aI (vB (decide (K.f_from<b.f_to))) wa rfl (aa (vB (decide (K.f_from<b.f_to))) (af ?_)))))))
        obtain rfl:=ae y
        exact cu
       ·refine aC rfl X wz (ah (ah (ah (ah (ah (ah (ah (ah (aa (vB false) (af ?_))))))))))
        obtain rfl:=ae y
        exact cu
      ·rintro ⟨⟩ _ F A n o
       refine aN _ n o ?_
       rcases aj j with⟨Y,j⟩|⟨Y,j⟩
       ·refine aB rfl Y (ax (ak (aM (ak (ak (bD (aa (vL Run.enc f) (aa (vI a.2.1) ?_))))))))
        obtain ⟨T,Ï,j⟩:=bind_some j
        refine dC lL rfl rfl Ï rfl wz (si lw rfl [.int .i64 T.f_from,.int .i64 T.f_to] rfl rfl wz (bC sz3 ag3 rfl (vI T.f_from) rfl wz (aG lw rfl 0 rfl wz (aF 6 1 (.inr (by kernel_rfl)) (λ_ _ ag=>trivial) sz3 ag3 rfl rfl (vI a.2.2) rfl wz (aa (vB (decide (T.f_from>a.2.2))) (af ?_))))))
        obtain ⟨Å,t,j⟩:=bind_some j
        refine lD (β:=Nm) (λ(I:Nm)=>([(1,(vL Run.enc f)),(5,(gV I 2 Å)),(6,(vI e)),(8,(.ref q 0 0)),(9,(vI a.2.1)),(10,(vL Run.enc c)),(11,(vI (c.length:Int))),(12,(vI (l:Int)))]:SL_)) (λ(I:Nm)=>([(I,gB 2 Run.enc Å),(q,some (.cells 2 [(vI a.2.2),(vI b.f_to)]))]:Hp)) (λ_=>True) ?_ ?_
        ·rcases aj t with⟨Z,t⟩|⟨Z,t⟩
         ·refine aB rfl Z (bD (aa (gV m 2 a.1) (aG lw rfl 0 rfl wz (aF 2 1 (.inr (by kernel_rfl)) (λ_ _ ag=>trivial) sz3 ag3 rfl rfl (vI a.2.2) rfl wz (aa (vL Run.enc f) (aa (vI a.2.1) ?_))))))
          obtain ⟨L,Ð,t⟩:=bind_some t
          refine dC lL rfl rfl Ð rfl wz (si lw rfl [.int .i64 L.f_from,.int .i64 L.f_to] rfl rfl wz (bC sz3 ag3 rfl (vI L.f_from) rfl wz (aI (.d (.agg (Run.enc (⟨a.2.2,L.f_from⟩:Run)))) wz (by kernel_rfl) (eD (([(⟨a.2.2,L.f_from⟩:Run)]:List Run).map Run.enc) lL Oc rfl rfl rfl rfl rfl wz ?_))))
          obtain ⟨Ê,Ò,t⟩:=bind_some t
          refine kY 10 (.inr (by kernel_rfl)) (λ_ _ ag=>⟨.inr (.inr (by kernel_rfl)),trivial⟩) (i:=0) CL CL oh z152 rfl (by decide) Nt (by decide) (λ_=>rfl) rfl rfl rfl Ò wz (λÈ=>aa (gV È 2 Ê) (af ?_))
          obtain rfl:=ae t
          exact aY È trivial rfl (aJ rfl)
         ·refine aA rfl Z (ax ?_)
          obtain rfl:=ae t
          exact aY m trivial rfl (aJ rfl)
        ·rintro I _ F A n o
         refine aN _ n o (bD (aG lw rfl 0 rfl wz (aF 1 1 (.inr (by kernel_rfl)) (λ_ _ ag=>trivial) sz3 ag3 rfl rfl (vI a.2.2) rfl wz (aa (vL Run.enc f) (aa (vI a.2.1) ?_)))))
         obtain ⟨M,Ñ,j⟩:=bind_some j
         refine dC lL rfl rfl Ñ rfl wz (si qX rfl [.int .i64 M.f_to] rfl rfl wz (bC sz3 ag3 rfl (vI M.f_to) rfl wz (uD (vI (uQ a.2.2 M.f_to)) rfl (.inr rfl) wz (aG lw rfl 0 rfl wz (gy 9 (.inr (by kernel_rfl)) (λ_ _ ag=>⟨.inr (.inr (by kernel_rfl)),trivial⟩) 1 sz3 rfl rfl [(vI (uQ a.2.2 M.f_to)),(vI b.f_to)] rfl wz (af (av (aa (vI a.2.1) (aa (vI (w64 (a.2.1+1))) (aa (vI (w64 (a.2.1+1))) (af ?_)))))))))))
         obtain rfl:=ae j
         exact bf (Q,(Å,(w64 (a.2.1+1)),(uQ a.2.2 M.f_to)),I) E (ls_ _) rfl (aJ rfl)
       ·refine aA rfl Y (bg ?_)
        obtain rfl:=ae j
        obtain rfl:=ae E
        exact aY ((a.1,a.2.1,a.2.2),m) rfl rfl (aJ rfl)
    ·rintro ⟨a,m⟩ H F A n o
     subst H
     refine aN _ n o (ai (aG lw rfl 0 rfl wz (aF 0 1 il ft sz3 ag3 rfl rfl (vI a.2.2) rfl wz (aG qX rfl 1 rfl wz (aF 0 1 il ft sz3 ag3 rfl rfl (vI b.f_to) rfl wz (aa (vB (decide (a.2.2<b.f_to))) (af ?_)))))))
     obtain ⟨Æ,z,u⟩:=bind_some u
     refine lD (β:=Nm) (λ(J:Nm)=>([(1,(vL Run.enc f)),(5,(gV J 2 Æ)),(6,(vI e)),(10,(vL Run.enc c)),(11,(vI (c.length:Int))),(12,(vI (l:Int)))]:SL_)) (λ(J:Nm)=>([(J,gB 2 Run.enc Æ),(q,some (.cells 2 [(vI a.2.2),(vI b.f_to)]))]:Hp)) (λ_=>True) ?_ ?_
     ·rcases aj z with⟨À,z⟩|⟨À,z⟩
      ·refine aB rfl À (av (aa (gV m 2 a.1) (aF 0 1 il ft oh xH rfl rfl (.d (.agg (Run.enc (⟨a.2.2,b.f_to⟩:Run)))) rfl wz (eD (([(⟨a.2.2,b.f_to⟩:Run)]:List Run).map Run.enc) lL Oc rfl rfl rfl rfl rfl wz ?_))))
       obtain ⟨Ë,Ó,z⟩:=bind_some z
       refine kY 0 il ft (i:=0) CL CL oh z152 rfl (by decide) Nt (by decide) (λ_=>rfl) rfl rfl rfl Ó wz (λÉ=>aa (gV É 2 Ë) (af ?_))
       obtain rfl:=ae z
       exact aY É trivial rfl (aJ rfl)
      ·refine aA rfl À (ax ?_)
       obtain rfl:=ae z
       exact aY m trivial rfl (aJ rfl)
     ·rintro J _ F A n o
      refine aN _ n o (av (fC (bG B Ì) wz rfl (aa (vI ((l+1:Nat):Int)) (af ?_))))
      obtain rfl:=ae u
      exact bf (l+1,Ä,(Æ,e),J) ⟨G,aW B⟩ (ls_ _) rfl (aJ rfl)
 ·rintro ⟨g,h⟩ H F A n o
  subst H
  refine aN _ n o (ai (aa (gV h 2 g.1) (aa (gV h 2 g.1) (af (ig 0 rfl (fT 4 0 rfl rfl (fT 5 0 rfl rfl (fT 87 0 rfl rfl ?_))))))))
  obtain rfl:=ae O
  exact ay (aK [(vL Run.enc g.1)] ⟨rfl,trivial⟩)
theorem mH {s1_1:(List Run)} {s2_2:(List Run)} {r:Bool} (b:dL s1_1 s2_2=some r) :
  FnM Tryz.prog 92 [(vL Run.enc s1_1),(vL Run.enc s2_2)] [] (vB r) []:=by
 refine FnM.of_wH ⟨Tryz.prog,26,[],[]⟩ rfl Tryz.func92 rfl rfl (lb_ rfl) (by kernel_rfl) ?_
 unfold dL at b
 refine ai (aa (vB false) (af (ak (ai (aa (vL Run.enc s1_1) (bL y8 rfl wz (aa (vL Run.enc s2_2) (bL y8 rfl wz (aa (vB ((s1_1.length:Int) != (s2_2.length:Int))) (af ?_))))))))))
 rcases aj b with⟨i,b⟩|⟨i,b⟩
 ·refine aB rfl i (ai (aa (vB false) (af ?_)))
  obtain rfl:=ae b
  exact ay (aK [(vB false)] ⟨rfl,trivial⟩)
 ·refine aA rfl i (ax (ak (ai (aa (vL Run.enc s1_1) (bL y8 rfl wz (aa (vI 0) (af ?_)))))))
  obtain ⟨v,j,b⟩:=bind_some b
  obtain ⟨o,j⟩:=aZ j
  refine dh (λ(g:Unit)=>[]) (λ(g:Unit)=>[]) (λ(a:Nat)=>(λ(g:Unit)=>[(0,(vL Run.enc s1_1)),(1,(vL Run.enc s2_2)),(12,(vI (s1_1.length:Int))),(13,(vI (a:Int)))])) (λk x s=>eO s2_2 k x s) v s1_1 () j rfl (aJ rfl) ?_ ?_
  ·rintro ⟨a,l,g⟩ ⟨f,e⟩
   dsimp only at f e
   cases l with
   | nil =>
    obtain rfl:=ae f
    refine ai (aa (vB (decide ((a:Int)<(s1_1.length:Int)))) (af ?_))
    refine ak (aA rfl (drop_nil e) (bg ?_))
    exact aY (g) rfl rfl (aJ rfl)
   | cons m l =>
    obtain ⟨y,c,f⟩:=bind_some f
    refine ai (aa (vB (decide ((a:Int)<(s1_1.length:Int)))) (af ?_))
    refine ak (aB rfl (bz e) (ax ?_))
    unfold eO at c
    refine ak (aM (ai (aa (vI (a:Int)) (aa (vI (a:Int)) (af (ak (bD (aa (vL Run.enc s1_1) (aa (vI (a:Int)) (dC lL rfl rfl (bI e) rfl wz (bC oh xH rfl (.d (.agg (Run.enc m))) rfl wz (aa (vL Run.enc s2_2) (aa (vI (a:Int)) ?_)))))))))))))
    obtain ⟨n,u,c⟩:=bind_some c
    refine dC lL rfl rfl u rfl wz (bC oh xH rfl (.d (.agg (Run.enc n))) rfl wz (aI (vB (!((m.f_from==n.f_from)&&((m.f_to==n.f_to)&&true)))) wz (by kernel_rfl) (af ?_)))
    rcases aj c with⟨h,c⟩|⟨h,c⟩
    ·refine aB rfl h (ai (aa (vB false) (af ?_)))
     obtain rfl:=ae c
     obtain rfl:=ae f
     obtain rfl:=ae b
     exact ay (aK [(vB false)] ⟨rfl,trivial⟩)
    ·refine aA rfl h (ax (av (fC (bG e o) wz rfl (aa (vI ((a+1:Nat):Int)) (af ?_)))))
     obtain rfl:=ae c
     exact bf (a+1,l,()) ⟨f,aW e⟩ (ls_ _) rfl (aJ rfl)
  ·rintro g p z w q t
   subst p
   refine aN _ q t (ai (aa (vB true) (af ?_)))
   obtain rfl:=ae b
   exact ay (aK [(vB true)] ⟨rfl,trivial⟩)
theorem BA {m:(List Rect)} {n:(List Rect)} {r:(List Rect)} (g:nu m n=some r) :
  FnM Tryz.prog 50 [(vL Rect.enc m),(vL Rect.enc n)] [] (vL Rect.enc r) []:=by
 refine FnM.of_wH ⟨Tryz.prog,88,[],[]⟩ rfl Tryz.func50 rfl rfl (lb_ rfl) (by kernel_rfl) ?_
 unfold nu at g
 refine ai (aa .nil (af (ai (aa .nil (af (ak (ai (aa (vL Rect.enc m) (aa (vL Rect.enc n) (eD (([m,n]:List (List Rect)).map (eL Rect.enc)) QT ez175 rfl rfl rfl rfl rfl wz ?_))))))))))
 obtain ⟨O,Ï,g⟩:=bind_some g
 refine aD (nM Ï) rfl hb87 rfl rfl rfl rfl wz (bL yX rfl wz (aa (vI 0) (af (mR (λÖ => ?_)))))
 obtain ⟨Ù,Z,g⟩:=bind_some g
 obtain ⟨Ì,Z⟩:=aZ Z
 refine iq (σ:=(List Int)) (N:=Nm) (λp=>(λ(t:List Int) (c:Nm)=>([(0,(vL Rect.enc m)),(1,(vL Rect.enc n)),(5,(gV c 1 t))]:SL_)) p.1 p.2) (λp=>(λ(t:List Int) (c:Nm)=>([(c,gB 1 eI t)]:Hp)) p.1 p.2) (λ(G:Nat)=>(λp=>(λ(t:List Int) (c:Nm)=>([(0,(vL Rect.enc m)),(1,(vL Rect.enc n)),(5,(gV c 1 t)),(19,(vL Rect.enc O)),(20,(vI (O.length:Int))),(21,(vI (G:Int)))]:SL_)) p.1 p.2)) (λk x s=>mK k x s) Ù O (([]:List Int),Ö) Z rfl (aJ rfl) ?_ ?_
 ·rintro ⟨G,Ã,t,c⟩ ⟨J,E⟩
  dsimp only at J E
  cases Ã with
  | nil =>
   obtain rfl:=ae J
   refine ai (aa (vB (decide ((G:Int)<(O.length:Int)))) (af ?_))
   refine ak (aA rfl (drop_nil E) (bg ?_))
   exact aY (t,c) rfl rfl (aJ rfl)
  | cons w Ã =>
   obtain ⟨Ç,P,J⟩:=bind_some J
   refine ai (aa (vB (decide ((G:Int)<(O.length:Int)))) (af ?_))
   refine ak (aB rfl (bz E) (ax ?_))
   unfold mK at P
   refine ak (aM (ai (dC BI rfl rfl (bI E) rfl wz (bC qw EJ rfl (.d (.agg (Rect.enc w))) rfl wz (dP 0 (.inl rfl) z47 rfl wz (λÝ=>gy 0 il ft 1 qw rfl rfl (Rect.v w) rfl wz (af (av (aa (gV c 1 t) (aG uu rfl 1 rfl wz (aF 0 1 il ft sz3 ag3 rfl rfl (vI w.Y) rfl wz (aG uu rfl 1 rfl wz (aF 0 1 il ft sz3 ag3 rfl rfl (vI w.Y) rfl wz (aG zx rfl 3 rfl wz (aF 0 1 il ft sz3 ag3 rfl rfl (vI w.H) rfl wz (aa (vI (w64 (w.Y+w.H))) (eD (([w.Y,(w64 (w.Y+w.H))]:List Int).map eI) lG Dt rfl rfl rfl rfl rfl wz ?_)))))))))))))))))
   obtain ⟨Å,Ô,P⟩:=bind_some P
   refine kY 0 il ft (i:=0) PO PO sz3 z3 rfl (by decide) by3 (by decide) (λ_=>rfl) rfl rfl rfl Ô wz (λÉ=>aa (gV É 1 Å) (af (av (fC (bG E Ì) wz rfl (aa (vI ((G+1:Nat):Int)) (af ?_))))))
   obtain rfl:=ae P
   exact bf (G+1,Ã,Å,É) ⟨J,aW E⟩ (ls_ _) rfl (aJ rfl)
 ·rintro ⟨t,c⟩ L Ä U z A
  subst L
  refine aN _ z A (ai (aa (gV c 1 t) ?_))
  obtain ⟨T,Í,g⟩:=bind_some g
  obtain ⟨_,M,g⟩:=bind_some g
  replace M:=sV M
  refine ug 0 [] 0 0 il ft (tu Í) rfl hb88 rfl rfl rfl (by kernel_rfl) rfl (.inl rfl) rfl (by kernel_rfl) (by kernel_rfl) (by kernel_rfl) (by kernel_rfl) rfl (by decide) (by kernel_rfl) rF (EG M) wz ([(c,gB 1 eI T)]:Hp) (by kernel_rfl) (gD (v':=(gV c 1 T)) 36 rfl (l6 M.symm) (gD (v':=(gV c 1 T)) 5 rfl (l6 M.symm) (af (ai (aa (gV c 1 T) ?_)))))
  obtain ⟨b,Î,g⟩:=bind_some g
  refine ug 0 [] 0 0 il ft (qJ Î) rfl hb89 rfl rfl rfl (by kernel_rfl) rfl (.inl rfl) rfl (by kernel_rfl) (by kernel_rfl) (by kernel_rfl) (by kernel_rfl) rfl (by decide) (by kernel_rfl) DN (λ_=>rfl) wz ([(c,none)]:Hp) (by kernel_rfl) (aa (vL eI b) (af (ai (aa .nil (af (ai (aa .nil (af (ai (aa (vI 0) (af (ak (ai (aa (vL eI b) (bL wW rfl wz (aa (vI 0) (af (NK Run.enc 9 rfl (mR (λØ => ?_))))))))))))))))))))
  obtain ⟨Ú,À,g⟩:=bind_some g
  obtain ⟨È,À⟩:=aZ À
  refine iq (σ:=(List Rect)×(List Run)×Int) (N:=Nm) (λp=>(λ(a:(List Rect)×(List Run)×Int) (h:Nm)=>([(8,(gV h 4 a.1))]:SL_)) p.1 p.2) (λp=>(λ(a:(List Rect)×(List Run)×Int) (h:Nm)=>([(c,none),(h,gB 4 Rect.enc a.1)]:Hp)) p.1 p.2) (λ(e:Nat)=>(λp=>(λ(a:(List Rect)×(List Run)×Int) (h:Nm)=>([(0,(vL Rect.enc m)),(1,(vL Rect.enc n)),(5,(vL eI b)),(8,(gV h 4 a.1)),(9,(vL Run.enc a.2.1)),(10,(vI a.2.2)),(40,(vL eI b)),(41,(vI (b.length:Int))),(42,(vI (e:Int)))]:SL_)) p.1 p.2)) (λk x s=>jP b m n k x s) Ú b ((([]:List Rect),([]:List Run),0),Ø) À rfl (aJ rfl) ?_ ?_
  ·rintro ⟨e,R,a,h⟩ ⟨F,y⟩
   dsimp only at F y
   cases R with
   | nil =>
    obtain rfl:=ae F
    refine ai (aa (vB (decide ((e:Int)<(b.length:Int)))) (af ?_))
    refine ak (aA rfl (drop_nil y) (bg ?_))
    exact aY (a,h) rfl rfl (aJ rfl)
   | cons f R =>
    obtain ⟨Ç,l,F⟩:=bind_some F
    refine ai (aa (vB (decide ((e:Int)<(b.length:Int)))) (af ?_))
    refine ak (aB rfl (bz y) (ax ?_))
    unfold jP at l
    refine ak (aM (ai (aa (vI (e:Int)) (dC lG rfl rfl (bI y) rfl wz (bC sz3 ag3 rfl (vI f) rfl wz (aa (vI (e:Int)) (aa (vI f) (af (ai (aa .nil (af (ak (ai (aa (vI (e:Int)) (aa (vI (w64 ((e:Int)+1))) (aa (vL eI b) (bL wW rfl wz (aa (vB (decide ((w64 ((e:Int)+1))<(b.length:Int)))) (af (NK Run.enc 13 rfl ?_))))))))))))))))))))
    obtain ⟨B,o,l⟩:=bind_some l
    refine aP [(0,(vL Rect.enc m)),(1,(vL Rect.enc n)),(5,(vL eI b)),(8,(gV h 4 a.1)),(9,(vL Run.enc a.2.1)),(10,(vI a.2.2)),(12,(vI f)),(13,(vL Run.enc B)),(40,(vL eI b)),(41,(vI (b.length:Int))),(42,(vI (e:Int)))] [(c,none),(h,gB 4 Rect.enc a.1)] ?_ ?_
    ·rcases aj o with⟨W,o⟩|⟨W,o⟩
     ·refine aB rfl W (av (aa (vL Rect.enc m) (aa (vI f) ?_)))
      obtain ⟨ß,Ð,o⟩:=bind_some o
      refine aD (xC Ð) rfl hb91 rfl rfl rfl rfl wz (aa (vL Rect.enc n) (aa (vI f) ?_))
      obtain ⟨à,Ñ,o⟩:=bind_some o
      refine aD (xC Ñ) rfl hb91 rfl rfl rfl rfl wz ?_
      obtain ⟨Ü,Ò,o⟩:=bind_some o
      refine aD (F8 Ò) rfl hb90 rfl rfl rfl rfl wz (aa (vL Run.enc Ü) (af ?_))
      obtain rfl:=ae o
      exact cu
     ·refine aA rfl W (ax ?_)
      obtain rfl:=ae o
      exact cu
    ·rintro ⟨⟩ _ Ä U z A
     refine aN _ z A (ak (ai (aa (vL Run.enc a.2.1) (aa (vL Run.enc B) ?_))))
     obtain ⟨á,Ó,l⟩:=bind_some l
     refine aD (mH Ó) rfl hb92 rfl rfl rfl rfl wz (af ?_)
     rcases aj l with⟨X,l⟩|⟨X,l⟩
     ·refine aB rfl X (bg (av (fC (bG y È) wz rfl (aa (vI ((e+1:Nat):Int)) (af ?_)))))
      obtain rfl:=ae l
      exact bf (e+1,R,(a.1,a.2.1,a.2.2),h) ⟨F,aW y⟩ (ls_ _) rfl (aJ rfl)
     ·refine aA rfl X (ax (ak (ai (aa (vL Run.enc a.2.1) (bL y8 rfl wz (aa (vI 0) (af ?_)))))))
      obtain ⟨Û,Á,l⟩:=bind_some l
      obtain ⟨Ë,Á⟩:=aZ Á
      refine iq (σ:=(List Rect)) (N:=Nm) (λp=>(λ(u:List Rect) (q:Nm)=>([(0,(vL Rect.enc m)),(1,(vL Rect.enc n)),(5,(vL eI b)),(8,(gV q 4 u)),(12,(vI f)),(13,(vL Run.enc B)),(40,(vL eI b)),(41,(vI (b.length:Int))),(42,(vI (e:Int)))]:SL_)) p.1 p.2) (λp=>(λ(u:List Rect) (q:Nm)=>([(c,none),(q,gB 4 Rect.enc u)]:Hp)) p.1 p.2) (λ(I:Nat)=>(λp=>(λ(u:List Rect) (q:Nm)=>([(0,(vL Rect.enc m)),(1,(vL Rect.enc n)),(5,(vL eI b)),(8,(gV q 4 u)),(10,(vI a.2.2)),(12,(vI f)),(13,(vL Run.enc B)),(40,(vL eI b)),(41,(vI (b.length:Int))),(42,(vI (e:Int))),(62,(vL Run.enc a.2.1)),(63,(vI (a.2.1.length:Int))),(64,(vI (I:Int)))]:SL_)) p.1 p.2)) (λk x s=>mE a f k x s) Û a.2.1 (a.1,h) Á rfl (aJ rfl) ?_ ?_
      ·rintro ⟨I,Â,u,q⟩ ⟨K,C⟩
       dsimp only at K C
       cases Â with
       | nil =>
        obtain rfl:=ae K
        refine ai (aa (vB (decide ((I:Int)<(a.2.1.length:Int)))) (af ?_))
        refine ak (aA rfl (drop_nil C) (bg ?_))
        exact aY (u,q) rfl rfl (aJ rfl)
       | cons j Â =>
        obtain ⟨Ç,Q,K⟩:=bind_some K
        refine ai (aa (vB (decide ((I:Int)<(a.2.1.length:Int)))) (af ?_))
        refine ak (aB rfl (bz C) (ax ?_))
        unfold mE at Q
        refine ak (aM (ai (dC lL rfl rfl (bI C) rfl wz (bC oh xH rfl (.d (.agg (Run.enc j))) rfl wz (dP 0 (.inl rfl) z152 rfl wz (λÞ=>gy 0 il ft 2 oh rfl rfl [(vI j.f_from),(vI j.f_to)] rfl wz (af (av (aa (gV q 4 u) (aG lw rfl 0 rfl wz (aF 0 2 il ft sz3 ag3 rfl rfl (vI j.f_from) rfl wz (aa (vI a.2.2) (aG qX rfl 1 rfl wz (aF 0 2 il ft sz3 ag3 rfl rfl (vI j.f_to) rfl wz (aG lw rfl 0 rfl wz (aF 0 2 il ft sz3 ag3 rfl rfl (vI j.f_from) rfl wz (aa (vI (w64 (j.f_to-j.f_from))) (aa (vI f) (aa (vI a.2.2) (aa (vI (w64 (f-a.2.2))) (aI (.d (.agg (Rect.enc (⟨j.f_from,a.2.2,(w64 (j.f_to-j.f_from)),(w64 (f-a.2.2))⟩:Rect)))) wz (by kernel_rfl) (eD (([(⟨j.f_from,a.2.2,(w64 (j.f_to-j.f_from)),(w64 (f-a.2.2))⟩:Rect)]:List Rect).map Rect.enc) BI QP rfl rfl rfl rfl rfl wz ?_))))))))))))))))))))))
        obtain ⟨Æ,Õ,Q⟩:=bind_some Q
        refine kY 0 il ft (i:=1) FX FX qw z47 rfl (by decide) Qe (by decide) (λ_=>rfl) rfl rfl rfl Õ wz (λÊ=>aa (gV Ê 4 Æ) (af (av (fC (bG C Ë) wz rfl (aa (vI ((I+1:Nat):Int)) (af ?_))))))
        obtain rfl:=ae Q
        exact bf (I+1,Â,Æ,Ê) ⟨K,aW C⟩ (ls_ _) rfl (aJ rfl)
      ·rintro ⟨u,q⟩ L Ä U z A
       subst L
       refine aN _ z A (av (aa (vL Run.enc B) (aa (vI f) (aa (vL Run.enc B) (aa (vI f) (af (av (fC (bG y È) wz rfl (aa (vI ((e+1:Nat):Int)) (af ?_))))))))))
       obtain rfl:=ae l
       exact bf (e+1,R,(u,B,f),q) ⟨F,aW y⟩ (ls_ _) rfl (aJ rfl)
  ·rintro ⟨a,h⟩ L Ä U z A
   subst L
   refine aN _ z A (ai (aa (gV h 4 a.1) (aa (gV h 4 a.1) (af (ig 1 rfl (fT 4 1 rfl rfl (fT 8 1 rfl rfl (fT 87 1 rfl rfl ?_))))))))
   obtain rfl:=ae g
   exact ay (aK [(vL Rect.enc a.1)] ⟨rfl,trivial⟩)
theorem E5 {c:(List Rect)} {r:Int} (h:tL c=some r) :
  FnM Tryz.prog 49 [(vL Rect.enc c)] [] (vI r) []:=by
 refine FnM.of_wH ⟨Tryz.prog,21,[],[]⟩ rfl Tryz.func49 rfl rfl (lb_ rfl) (by kernel_rfl) ?_
 unfold tL at h
 refine ai (aa (vI 0) (af (ai (aa (vI 0) (af (ak (ai (aa (vL Rect.enc c) (bL yX rfl wz (aa (vI 0) (af ?_)))))))))))
 obtain ⟨q,i,h⟩:=bind_some h
 obtain ⟨m,i⟩:=aZ i
 refine dh (λ(a:Int)=>[(3,(vI a))]) (λ(a:Int)=>[]) (λ(f:Nat)=>(λ(a:Int)=>[(3,(vI a)),(6,(vL Rect.enc c)),(7,(vI (c.length:Int))),(8,(vI (f:Int)))])) (λk x s=>sU k x s) q c 0 i rfl (aJ rfl) ?_ ?_
 ·rintro ⟨f,j,a⟩ ⟨g,e⟩
  dsimp only at g e
  cases j with
  | nil =>
   obtain rfl:=ae g
   refine ai (aa (vB (decide ((f:Int)<(c.length:Int)))) (af ?_))
   refine ak (aA rfl (drop_nil e) (bg ?_))
   exact aY (a) rfl rfl (aJ rfl)
  | cons b j =>
   obtain ⟨u,l,g⟩:=bind_some g
   refine ai (aa (vB (decide ((f:Int)<(c.length:Int)))) (af ?_))
   refine ak (aB rfl (bz e) (ax ?_))
   unfold sU at l
   refine ak (aM (ai (dC BI rfl rfl (bI e) rfl wz (bC qw EJ rfl (.d (.agg (Rect.enc b))) rfl wz (dP 0 (.inl rfl) z47 rfl wz (λw=>gy 0 il ft 0 qw rfl rfl (Rect.v b) rfl wz (af (av (aa (vI a) (aG BH rfl 2 rfl wz (aF 0 0 il ft sz3 ag3 rfl rfl (vI b.W) rfl wz (aG zx rfl 3 rfl wz (aF 0 0 il ft sz3 ag3 rfl rfl (vI b.H) rfl wz (aa (vI (w64 (b.W*b.H))) (aa (vI (w64 (a+(w64 (b.W*b.H))))) (aa (vI (w64 (a+(w64 (b.W*b.H))))) (af (av (fC (bG e m) wz rfl (aa (vI ((f+1:Nat):Int)) (af ?_)))))))))))))))))))))
   obtain rfl:=ae l
   exact bf (f+1,j,(w64 (a+(w64 (b.W*b.H))))) ⟨g,aW e⟩ (ls_ _) rfl (aJ rfl)
 ·rintro a n y t o p
  subst n
  refine aN _ o p (ai (aa (vI a) (aa (vI a) (af ?_))))
  obtain rfl:=ae h
  exact ay (aK [(vI a)] ⟨rfl,trivial⟩)
theorem EH {c:(List Rect)} {r:Int×Int} (a:qo c=some r) :
  FnM Tryz.prog 28 [(vL Rect.enc c)] [] (.tup [(vI r.1),(vI r.2)]) []:=by
 refine FnM.of_wH ⟨Tryz.prog,13,[],[]⟩ rfl Tryz.func28 rfl rfl (lb_ rfl) (by kernel_rfl) ?_
 unfold qo at a
 refine ai (aa (vI 0) (aa (vI 0) (af (ak (ai (aa (vL Rect.enc c) ?_))))))
 obtain ⟨b,f,a⟩:=bind_some a
 refine aD (xU f) rfl hb48 rfl rfl rfl rfl wz (aa (vI b) (af (ai (aa (vI b) (aa (vB (b != 0)) (af ?_))))))
 rcases aj a with⟨d,a⟩|⟨d,a⟩
 ·refine aB rfl d (ai (aa (vI b) (aa (vI 0) (aa (vI b) (af ?_)))))
  obtain rfl:=ae a
  exact ay (aK [(vI 0),(vI b)] ⟨rfl,⟨rfl,trivial⟩⟩)
 ·refine aA rfl d (ax (ai (aa (vL Rect.enc c) ?_)))
  obtain ⟨i,g,a⟩:=bind_some a
  refine aD (BA g) rfl hb50 rfl rfl rfl rfl wz ?_
  obtain ⟨e,h,a⟩:=bind_some a
  refine aD (E5 h) rfl hb49 rfl rfl rfl rfl wz (aa (vI e) (aa (vI 0) (af ?_)))
  obtain rfl:=ae a
  exact ay (aK [(vI e),(vI 0)] ⟨rfl,⟨rfl,trivial⟩⟩)
theorem JH {a:Int} {r:Bool} (c:Ca a=some r) :
  FnM Tryz.prog 164 [(vI a)] [] (vB r) []:=by
 refine FnM.of_wH ⟨Tryz.prog,9,[],[]⟩ rfl Tryz.func164 rfl rfl (lb_ rfl) (by kernel_rfl) ?_
 unfold Ca at c
 refine ai (aa (vB false) (af (ak ?_)))
 obtain ⟨e,b,c⟩:=bind_some c
 refine aP [(2,(vB e))] [] ?_ ?_
 ·refine av (aa (vI a) (aa (vB (decide (a>=0))) ?_))
  rcases aj b with⟨d,b⟩|⟨d,b⟩
  ·refine aC rfl d wz (aI (vI a) wa rfl (aI (vB (decide (a<=4000))) wa rfl (aa (vB (decide (a<=4000))) (aa (vB (decide (a<=4000))) (af ?_)))))
   obtain rfl:=ae b
   exact cu
  ·refine aC rfl d wz (ah (ah (aa (vB false) (aa (vB false) (af ?_)))))
   obtain rfl:=ae b
   exact cu
 ·rintro ⟨⟩ _ i h f g
  refine aN _ f g ?_
  obtain rfl:=ae c
  exact ay (aK [(vB e)] ⟨rfl,trivial⟩)
theorem uV {a:(List Int)} {r:Int} (d:jF a=some r) :
  FnM Tryz.prog 126 [(vL eI a)] [] (vI r) []:=by
 refine FnM.of_wH ⟨Tryz.prog,30,[],[]⟩ rfl Tryz.func126 rfl rfl (lb_ rfl) (by kernel_rfl) ?_
 unfold jF at d
 refine ai (aa (vI 0) (af (ak (ai (aa (vL eI a) (bL wW rfl wz (aa (vB (decide ((a.length:Int)>100))) (af ?_))))))))
 rcases aj d with⟨m,d⟩|⟨m,d⟩
 ·refine aB rfl m (ai (aa (vI 2) (af ?_)))
  obtain rfl:=ae d
  exact ay (aK [(vI 2)] ⟨rfl,trivial⟩)
 ·refine aA rfl m (ax (ak (ai (aa (vL eI a) (bL wW rfl wz (aa (vI 0) (af ?_)))))))
  obtain ⟨B,o,d⟩:=bind_some d
  obtain ⟨w,o⟩:=aZ o
  refine dh (λ(i:Unit)=>[]) (λ(i:Unit)=>[]) (λ(c:Nat)=>(λ(i:Unit)=>[(0,(vL eI a)),(8,(vL eI a)),(9,(vI (a.length:Int))),(10,(vI (c:Int)))])) (λk x s=>jY a k x s) B a () o rfl (aJ rfl) ?_ ?_
  ·rintro ⟨c,t,i⟩ ⟨e,g⟩
   dsimp only at e g
   cases t with
   | nil =>
    obtain rfl:=ae e
    refine ai (aa (vB (decide ((c:Int)<(a.length:Int)))) (af ?_))
    refine ak (aA rfl (drop_nil g) (bg ?_))
    exact aY (i) rfl rfl (aJ rfl)
   | cons h t =>
    obtain ⟨G,b,e⟩:=bind_some e
    refine ai (aa (vB (decide ((c:Int)<(a.length:Int)))) (af ?_))
    refine ak (aB rfl (bz g) (ax ?_))
    unfold jY at b
    refine ak (aM (ai (aa (vI (c:Int)) (dC lG rfl rfl (bI g) rfl wz (bC sz3 ag3 rfl (vI h) rfl wz (aa (vI (c:Int)) (aa (vI h) (af (ak (ai (aa (vI h) ?_)))))))))))
    obtain ⟨C,z,b⟩:=bind_some b
    refine aD (JH z) rfl hb164 rfl rfl rfl rfl wz (aa (vB (!C)) (af ?_))
    rcases aj b with⟨j,b⟩|⟨j,b⟩
    ·refine aB rfl j (ai (aa (vI 1) (af ?_)))
     obtain rfl:=ae b
     obtain rfl:=ae e
     obtain rfl:=ae d
     exact ay (aK [(vI 1)] ⟨rfl,trivial⟩)
    ·refine aA rfl j (ax (ak ?_))
     obtain ⟨F,f,b⟩:=bind_some b
     refine aP [(0,(vL eI a)),(8,(vL eI a)),(9,(vI (a.length:Int))),(10,(vI (c:Int))),(28,(vB F))] [] ?_ ?_
     ·refine av (aa (vI (c:Int)) (aa (vB (decide ((c:Int)>0))) ?_))
      rcases aj f with⟨l,f⟩|⟨l,f⟩
      ·refine aC rfl l wz (aI (vI h) wa rfl (aI (vL eI a) wa rfl (aI (vI (c:Int)) wa rfl (aI (vI (w64 ((c:Int)-1))) wa rfl ?_))))
       obtain ⟨u,A,f⟩:=bind_some f
       refine dC lG rfl rfl A rfl wa (bC sz3 ag3 rfl (vI u) rfl wa (aI (vB (decide (h<=u))) wa rfl (aa (vB (decide (h<=u))) (af ?_))))
       obtain rfl:=ae f
       exact cu
      ·refine aC rfl l wz (ah (ah (ah (ah (ah (ah (ah (aa (vB false) (af ?_)))))))))
       obtain rfl:=ae f
       exact cu
     ·rintro ⟨⟩ _ E v p q
      refine aN _ p q ?_
      rcases aj b with⟨n,b⟩|⟨n,b⟩
      ·refine aB rfl n (ai (aa (vI 7) (af ?_)))
       obtain rfl:=ae b
       obtain rfl:=ae e
       obtain rfl:=ae d
       exact ay (aK [(vI 7)] ⟨rfl,trivial⟩)
      ·refine aA rfl n (ax (av (fC (bG g w) wz rfl (aa (vI ((c+1:Nat):Int)) (af ?_)))))
       obtain rfl:=ae b
       exact bf (c+1,t,()) ⟨e,aW g⟩ (ls_ _) rfl (aJ rfl)
  ·rintro i y E v p q
   subst y
   refine aN _ p q (ai (aa (vI 0) (af ?_)))
   obtain rfl:=ae d
   exact ay (aK [(vI 0)] ⟨rfl,trivial⟩)
theorem sG {b:(List ByteArray)} {r:Int} (g:jv b=some r) :
  FnM Tryz.prog 129 [(vL eS b)] [] (vI r) []:=by
 refine FnM.of_wH ⟨Tryz.prog,27,[],[]⟩ rfl Tryz.func129 rfl rfl (lb_ rfl) (by kernel_rfl) ?_
 unfold jv at g
 refine ai (aa (vI 0) (af (ak (ai (aa (vL eS b) (bL ru rfl wz (aa (vI 0) (af ?_))))))))
 obtain ⟨A,n,g⟩:=bind_some g
 obtain ⟨v,n⟩:=aZ n
 refine dh (λ(i:Unit)=>[]) (λ(i:Unit)=>[]) (λ(c:Nat)=>(λ(i:Unit)=>[(0,(vL eS b)),(5,(vL eS b)),(6,(vI (b.length:Int))),(7,(vI (c:Int)))])) (λk x s=>jh b k x s) A b () n rfl (aJ rfl) ?_ ?_
 ·rintro ⟨c,q,i⟩ ⟨d,f⟩
  dsimp only at d f
  cases q with
  | nil =>
   obtain rfl:=ae d
   refine ai (aa (vB (decide ((c:Int)<(b.length:Int)))) (af ?_))
   refine ak (aA rfl (drop_nil f) (bg ?_))
   exact aY (i) rfl rfl (aJ rfl)
  | cons h q =>
   obtain ⟨F,a,d⟩:=bind_some d
   refine ai (aa (vB (decide ((c:Int)<(b.length:Int)))) (af ?_))
   refine ak (aB rfl (bz f) (ax ?_))
   unfold jh at a
   refine ak (aM (ai (aa (vI (c:Int)) (dC mI rfl rfl (bI f) rfl wz (bC sz9 ag9 rfl (vS h) rfl wz (aa (vI (c:Int)) (aa (vS h) (af (ak (ai (aa (vS h) ?_)))))))))))
   obtain ⟨B,y,a⟩:=bind_some a
   refine aD (fU y) rfl Fw rfl rfl rfl rfl wz (aa (vB (!B)) (af ?_))
   rcases aj a with⟨j,a⟩|⟨j,a⟩
   ·refine aB rfl j (ai (aa (vI 5) (af ?_)))
    obtain rfl:=ae a
    obtain rfl:=ae d
    obtain rfl:=ae g
    exact ay (aK [(vI 5)] ⟨rfl,trivial⟩)
   ·refine aA rfl j (ax (ak ?_))
    obtain ⟨E,e,a⟩:=bind_some a
    refine aP [(0,(vL eS b)),(5,(vL eS b)),(6,(vI (b.length:Int))),(7,(vI (c:Int))),(25,(vB E))] [] ?_ ?_
    ·refine av (aa (vI (c:Int)) (aa (vB (decide ((c:Int)>0))) ?_))
     rcases aj e with⟨l,e⟩|⟨l,e⟩
     ·refine aC rfl l wz (aI (vS h) wa rfl (aI (vL eS b) wa rfl (aI (vI (c:Int)) wa rfl (aI (vI (w64 ((c:Int)-1))) wa rfl ?_))))
      obtain ⟨t,z,e⟩:=bind_some e
      refine dC mI rfl rfl z rfl wa (bC sz9 ag9 rfl (vS t) rfl wa (aI (vB (sLe h t)) wa rfl (aa (vB (sLe h t)) (af ?_))))
      obtain rfl:=ae e
      exact cu
     ·refine aC rfl l wz (ah (ah (ah (ah (ah (ah (ah (aa (vB false) (af ?_)))))))))
      obtain rfl:=ae e
      exact cu
    ·rintro ⟨⟩ _ C u o p
     refine aN _ o p ?_
     rcases aj a with⟨m,a⟩|⟨m,a⟩
     ·refine aB rfl m (ai (aa (vI 7) (af ?_)))
      obtain rfl:=ae a
      obtain rfl:=ae d
      obtain rfl:=ae g
      exact ay (aK [(vI 7)] ⟨rfl,trivial⟩)
     ·refine aA rfl m (ax (av (fC (bG f v) wz rfl (aa (vI ((c+1:Nat):Int)) (af ?_)))))
      obtain rfl:=ae a
      exact bf (c+1,q,()) ⟨d,aW f⟩ (ls_ _) rfl (aJ rfl)
 ·rintro i w C u o p
  subst w
  refine aN _ o p (ai (aa (vI 0) (af ?_)))
  obtain rfl:=ae g
  exact ay (aK [(vI 0)] ⟨rfl,trivial⟩)
theorem xc {b:(List ByteArray)} {r:Int} (a:jd b=some r) :
  FnM Tryz.prog 127 [(vL eS b)] [] (vI r) []:=by
 refine FnM.of_wH ⟨Tryz.prog,8,[],[]⟩ rfl Tryz.func127 rfl rfl (lb_ rfl) (by kernel_rfl) ?_
 unfold jd at a
 refine ai (aa (vI 0) (af (ak (ai (aa (vL eS b) (bL ru rfl wz (aa (vB (decide ((b.length:Int)>20))) (af ?_))))))))
 rcases aj a with⟨c,a⟩|⟨c,a⟩
 ·refine aB rfl c (ai (aa (vI 2) (af ?_)))
  obtain rfl:=ae a
  exact ay (aK [(vI 2)] ⟨rfl,trivial⟩)
 ·refine aA rfl c (ax (ai (aa (vL eS b) ?_)))
  obtain ⟨d,e,a⟩:=bind_some a
  refine aD (sG e) rfl hb129 rfl rfl rfl rfl wz (aa (vI d) (af ?_))
  obtain rfl:=ae a
  exact ay (aK [(vI d)] ⟨rfl,trivial⟩)
theorem vM {c:Entry} {r:Int} (a:iL c=some r) :
  FnM Tryz.prog 93 [(.d (.agg (Entry.enc c)))] [] (vI r) []:=by
 refine FnM.of_wH ⟨Tryz.prog,61,[],[]⟩ rfl Tryz.func93 rfl rfl (lb_ rfl) (by kernel_rfl) ?_
 unfold iL at a
 refine ai (iW 0 (.inl rfl) (Entry.v c) rfl rfl wz (λg=>aa (vI 0) (af (ak (ak ?_)))))
 obtain ⟨X,f,a⟩:=bind_some a
 refine aP [(1,(.ref g 0 0)),(13,(vB X))] [(g,some (.cells 13 (Entry.v c)))] ?_ ?_
 ·refine av (aG LD rfl 0 rfl wz (aF 0 0 il ft sz9 ag9 rfl rfl (vS c.Key) rfl wz ?_))
  obtain ⟨T,L,f⟩:=bind_some f
  refine aD (fU L) rfl Fw rfl rfl rfl rfl wz (aa (vB (!T)) ?_)
  rcases aj f with⟨w,f⟩|⟨w,f⟩
  ·refine aC rfl w wz (ah (ah (ah (ah (aa (vB true) (af ?_))))))
   obtain rfl:=ae f
   exact cu
  ·refine aC rfl w wz (aG pl75_1 rfl 1 rfl wa (aF 0 0 il ft sz9 ag9 rfl rfl (vS c.Item) rfl wa ?_))
   obtain ⟨z,M,f⟩:=bind_some f
   refine aD (fU M) rfl Fw rfl rfl rfl rfl wa (aI (vB (!z)) wa rfl (aa (vB (!z)) (af ?_)))
   obtain rfl:=ae f
   exact cu
 ·rintro ⟨⟩ _ A x i j
  refine aN _ i j ?_
  rcases aj a with⟨k,a⟩|⟨k,a⟩
  ·refine aB rfl k (ai (aa (vI 5) (af ?_)))
   obtain rfl:=ae a
   exact ay (aK [(vI 5)] ⟨rfl,trivial⟩)
  ·refine aA rfl k (ax (ak (ak ?_)))
   obtain ⟨U,b,a⟩:=bind_some a
   refine aP [(1,(.ref g 0 0)),(38,(vB U))] [(g,some (.cells 13 (Entry.v c)))] ?_ ?_
   ·refine av (aG pl75_2 rfl 2 rfl wz (aF 0 0 il ft sz3 ag3 rfl rfl (vI c.Version) rfl wz ?_))
    obtain ⟨Y,B,b⟩:=bind_some b
    refine aD (bv B) rfl rU rfl rfl rfl rfl wz ?_
    rcases aj b with⟨l,b⟩|⟨l,b⟩
    ·refine aC rfl l wz (ah (ah (ah (ah (ah (aa (vB true) (aa (vB true) (ah (ah (ah (aa (vB true) (aa (vB true) (ah (ah (ah (aa (vB true) (aa (vB true) (ah (ah (ah (aa (vB true) (af ?_))))))))))))))))))))))
     obtain rfl:=ae b
     exact cu
    ·refine aC rfl l wz (aG Ja rfl 3 rfl wa (aF 0 0 il ft sz3 ag3 rfl rfl (vI c.First) rfl wa (aG IJ rfl 4 rfl wa (aF 0 0 il ft sz3 ag3 rfl rfl (vI c.Last) rfl wa ?_))))
     obtain ⟨N,C,b⟩:=bind_some b
     refine aD (bv C) rfl rU rfl rfl rfl rfl wa (aa (vB N) ?_)
     rcases aj b with⟨m,b⟩|⟨m,b⟩
     ·refine aC rfl m wz (ah (ah (ah (aa (vB true) (aa (vB true) (ah (ah (ah (aa (vB true) (aa (vB true) (ah (ah (ah (aa (vB true) (af ?_)))))))))))))))
      obtain rfl:=ae b
      exact cu
     ·refine aC rfl m wz (aG IJ rfl 4 rfl wa (aF 0 0 il ft sz3 ag3 rfl rfl (vI c.Last) rfl wa (aI (vB (decide (c.Last>4000))) wa rfl (aa (vB (decide (c.Last>4000))) ?_))))
      rcases aj b with⟨n,b⟩|⟨n,b⟩
      ·refine aC rfl n wz (ah (ah (ah (aa (vB true) (aa (vB true) (ah (ah (ah (aa (vB true) (af ?_))))))))))
       obtain rfl:=ae b
       exact cu
      ·refine aC rfl n wz (aG Q0 rfl 5 rfl wa (aF 0 0 il ft sz3 ag3 rfl rfl (vI c.Every) rfl wa ?_))
       obtain ⟨O,E,b⟩:=bind_some b
       refine aD (bv E) rfl rU rfl rfl rfl rfl wa (aa (vB O) ?_)
       rcases aj b with⟨o,b⟩|⟨o,b⟩
       ·refine aC rfl o wz (ah (ah (ah (aa (vB true) (af ?_)))))
        obtain rfl:=ae b
        exact cu
       ·refine aC rfl o wz (aG Qp rfl 6 rfl wa (aF 0 0 il ft sz3 ag3 rfl rfl (vI c.Days) rfl wa ?_))
        obtain ⟨P,F,b⟩:=bind_some b
        refine aD (bv F) rfl rU rfl rfl rfl rfl wa (aa (vB P) (af ?_))
        obtain rfl:=ae b
        exact cu
   ·rintro ⟨⟩ _ A x i j
    refine aN _ i j ?_
    rcases aj a with⟨p,a⟩|⟨p,a⟩
    ·refine aB rfl p (ai (aa (vI 1) (af ?_)))
     obtain rfl:=ae a
     exact ay (aK [(vI 1)] ⟨rfl,trivial⟩)
    ·refine aA rfl p (ax (ak (ai (aG Rn rfl 7 rfl wz (aF 0 0 il ft PD Pz rfl rfl (vL eI c.Except) rfl wz ?_)))))
     obtain ⟨h,G,a⟩:=bind_some a
     refine aD (uV G) rfl hb126 rfl rfl rfl rfl wz (aa (vI h) (af (ai (aa (vI h) (aa (vB (h != 0)) (af ?_))))))
     rcases aj a with⟨q,a⟩|⟨q,a⟩
     ·refine aB rfl q (ai (aa (vI h) (aa (vI h) (af ?_))))
      obtain rfl:=ae a
      exact ay (aK [(vI h)] ⟨rfl,trivial⟩)
     ·refine aA rfl q (ax (ak (ak ?_)))
      obtain ⟨W,e,a⟩:=bind_some a
      refine aP [(1,(.ref g 0 0)),(57,(vB W))] [(g,some (.cells 13 (Entry.v c)))] ?_ ?_
      ·refine av (aG ME rfl 8 rfl wz (aF 0 0 il ft sz3 ag3 rfl rfl (vI c.From) rfl wz ?_))
       obtain ⟨Z,H,e⟩:=bind_some e
       refine aD (bv H) rfl rU rfl rfl rfl rfl wz ?_
       rcases aj e with⟨s,e⟩|⟨s,e⟩
       ·refine aC rfl s wz (ah (ah (ah (aa (vB true) (aa (vB true) (ah (ah (ah (aa (vB true) (af ?_))))))))))
        obtain rfl:=ae e
        exact cu
       ·refine aC rfl s wz (aG Qw rfl 9 rfl wa (aF 0 0 il ft sz3 ag3 rfl rfl (vI c.To) rfl wa ?_))
        obtain ⟨Q,I,e⟩:=bind_some e
        refine aD (bv I) rfl rU rfl rfl rfl rfl wa (aa (vB Q) ?_)
        rcases aj e with⟨t,e⟩|⟨t,e⟩
        ·refine aC rfl t wz (ah (ah (ah (aa (vB true) (af ?_)))))
         obtain rfl:=ae e
         exact cu
        ·refine aC rfl t wz (aG pl75_10 rfl 10 rfl wa (aF 0 0 il ft sz3 ag3 rfl rfl (vI c.Prio) rfl wa ?_))
         obtain ⟨R,J,e⟩:=bind_some e
         refine aD (bv J) rfl rU rfl rfl rfl rfl wa (aa (vB R) (af ?_))
         obtain rfl:=ae e
         exact cu
      ·rintro ⟨⟩ _ A x i j
       refine aN _ i j ?_
       rcases aj a with⟨u,a⟩|⟨u,a⟩
       ·refine aB rfl u (ai (aa (vI 1) (af ?_)))
        obtain rfl:=ae a
        exact ay (aK [(vI 1)] ⟨rfl,trivial⟩)
       ·refine aA rfl u (ax (ai (aG pl75_11 rfl 11 rfl wz (aF 0 0 il ft Ar Ep rfl rfl (vL eS c.Tags) rfl wz ?_))))
        obtain ⟨y,K,a⟩:=bind_some a
        refine aD (xc K) rfl hb127 rfl rfl rfl rfl wz (aa (vI y) (af ?_))
        obtain rfl:=ae a
        exact ay (aK [(vI y)] ⟨rfl,trivial⟩)
theorem uo {a:(List Entry)} {r:Int} (e:gL a=some r) :
  FnM Tryz.prog 51 [(vL Entry.enc a)] [] (vI r) []:=by
 refine FnM.of_wH ⟨Tryz.prog,35,[],[]⟩ rfl Tryz.func51 rfl rfl (lb_ rfl) (by kernel_rfl) ?_
 unfold gL at e
 refine ai (aa (vI 0) (af (ak (ai (aa (vL Entry.enc a) (bL un110 rfl wz (aa (vB (decide ((a.length:Int)>200))) (af ?_))))))))
 rcases aj e with⟨p,e⟩|⟨p,e⟩
 ·refine aB rfl p (ai (aa (vI 2) (af ?_)))
  obtain rfl:=ae e
  exact ay (aK [(vI 2)] ⟨rfl,trivial⟩)
 ·refine aA rfl p (ax (ak (ai (aa (vL Entry.enc a) (bL un110 rfl wz (aa (vI 0) (af ?_)))))))
  obtain ⟨G,t,e⟩:=bind_some e
  obtain ⟨A,t⟩:=aZ t
  refine dh (λ(l:Unit)=>[]) (λ(l:Unit)=>[]) (λ(c:Nat)=>(λ(l:Unit)=>[(0,(vL Entry.enc a)),(9,(vL Entry.enc a)),(10,(vI (a.length:Int))),(11,(vI (c:Int)))])) (λk x s=>fB a k x s) G a () t rfl (aJ rfl) ?_ ?_
  ·rintro ⟨c,y,l⟩ ⟨f,i⟩
   dsimp only at f i
   cases y with
   | nil =>
    obtain rfl:=ae f
    refine ai (aa (vB (decide ((c:Int)<(a.length:Int)))) (af ?_))
    refine ak (aA rfl (drop_nil i) (bg ?_))
    exact aY (l) rfl rfl (aJ rfl)
   | cons h y =>
    obtain ⟨J,b,f⟩:=bind_some f
    refine ai (aa (vB (decide ((c:Int)<(a.length:Int)))) (af ?_))
    refine ak (aB rfl (bz i) (ax ?_))
    unfold fB at b
    refine ak (aM (ai (aa (vI (c:Int)) (dC RJ rfl rfl (bI i) rfl wz (bC Mt Oq rfl (.d (.agg (Entry.enc h))) rfl wz (dP 0 (.inl rfl) z75 rfl wz (λF=>aa (vI (c:Int)) (gy 0 il ft 0 Mt rfl rfl (Entry.v h) rfl wz (af (ak (ai (aF 0 0 il ft Mt Oq rfl rfl (.d (.agg (Entry.enc h))) rfl wz ?_))))))))))))
    obtain ⟨j,C,b⟩:=bind_some b
    refine aD (vM C) rfl hb93 rfl rfl rfl rfl wz (aa (vI j) (af (ai (aa (vI j) (aa (vB (j != 0)) (af ?_))))))
    rcases aj b with⟨n,b⟩|⟨n,b⟩
    ·refine aB rfl n (ai (aa (vI j) (aa (vI j) (af ?_))))
     obtain rfl:=ae b
     obtain rfl:=ae f
     obtain rfl:=ae e
     exact ay (aK [(vI j)] ⟨rfl,trivial⟩)
    ·refine aA rfl n (ax (ak ?_))
     obtain ⟨I,g,b⟩:=bind_some b
     refine aP [(0,(vL Entry.enc a)),(9,(vL Entry.enc a)),(10,(vI (a.length:Int))),(11,(vI (c:Int))),(33,(vB I))] [(F,some (.cells 13 (Entry.v h)))] ?_ ?_
     ·refine bD (aa (vI (c:Int)) (aa (vB (decide ((c:Int)>0))) ?_))
      rcases aj g with⟨o,g⟩|⟨o,g⟩
      ·refine aC rfl o wz (aG LD rfl 0 rfl wa (aF 4 0 (.inr (by kernel_rfl)) (λ_ _ ag=>trivial) sz9 ag9 rfl rfl (vS h.Key) rfl wa (aI (vL Entry.enc a) wa rfl (aI (vI (c:Int)) wa rfl (aI (vI (w64 ((c:Int)-1))) wa rfl ?_)))))
       obtain ⟨m,E,g⟩:=bind_some g
       refine dC RJ rfl rfl E rfl wa (si LD rfl (Entry.enc m) rfl rfl wa (bC sz9 ag9 rfl (vS m.Key) rfl wa (aI (vB (sLe h.Key m.Key)) wa rfl (aa (vB (sLe h.Key m.Key)) (af ?_)))))
       obtain rfl:=ae g
       exact cu
      ·refine aC rfl o wz (ah (ah (ah (ah (ah (ah (ah (ah (ah (aa (vB false) (af ?_)))))))))))
       obtain rfl:=ae g
       exact cu
     ·rintro ⟨⟩ _ H z u w
      refine aN _ u w ?_
      rcases aj b with⟨q,b⟩|⟨q,b⟩
      ·refine aB rfl q (ai (aa (vI 7) (af ?_)))
       obtain rfl:=ae b
       obtain rfl:=ae f
       obtain rfl:=ae e
       exact ay (aK [(vI 7)] ⟨rfl,trivial⟩)
      ·refine aA rfl q (ax (av (fC (bG i A) wz rfl (aa (vI ((c+1:Nat):Int)) (af ?_)))))
       obtain rfl:=ae b
       exact bf (c+1,y,()) ⟨f,aW i⟩ (ls_ _) rfl (aJ rfl)
  ·rintro l B H z u w
   subst B
   refine aN _ u w (ai (aa (vI 0) (af ?_)))
   obtain rfl:=ae e
   exact ay (aK [(vI 0)] ⟨rfl,trivial⟩)
theorem uL {a:Window} {r:Int} (b:jG a=some r) :
  FnM Tryz.prog 53 [(.d (.agg (Window.enc a)))] [] (vI r) []:=by
 refine FnM.of_wH ⟨Tryz.prog,19,[],[]⟩ rfl Tryz.func53 rfl rfl (lb_ rfl) (by kernel_rfl) ?_
 unfold jG at b
 refine ai (iW 0 (.inl rfl) [(vI a.From),(vI a.To)] rfl rfl wz (λh=>aa (vI 0) (af (ak (ak ?_)))))
 obtain ⟨l,c,b⟩:=bind_some b
 refine aP [(1,(.ref h 0 0)),(12,(vB l))] [(h,some (.cells 2 [(vI a.From),(vI a.To)]))] ?_ ?_
 ·refine av (aG pM rfl 0 rfl wz (aF 0 0 il ft sz3 ag3 rfl rfl (vI a.From) rfl wz (aG pE rfl 1 rfl wz (aF 0 0 il ft sz3 ag3 rfl rfl (vI a.To) rfl wz ?_))))
  obtain ⟨n,k,c⟩:=bind_some c
  refine aD (bv k) rfl rU rfl rfl rfl rfl wz ?_
  rcases aj c with⟨e,c⟩|⟨e,c⟩
  ·refine aC rfl e wz (ah (ah (ah (aa (vB true) (af ?_)))))
   obtain rfl:=ae c
   exact cu
  ·refine aC rfl e wz (aG pE rfl 1 rfl wa (aF 0 0 il ft sz3 ag3 rfl rfl (vI a.To) rfl wa (aI (vB (decide (a.To>345686400000))) wa rfl (aa (vB (decide (a.To>345686400000))) (af ?_)))))
   obtain rfl:=ae c
   exact cu
 ·rintro ⟨⟩ _ o m i j
  refine aN _ i j ?_
  rcases aj b with⟨f,b⟩|⟨f,b⟩
  ·refine aB rfl f (ai (aa (vI 1) (af ?_)))
   obtain rfl:=ae b
   exact ay (aK [(vI 1)] ⟨rfl,trivial⟩)
  ·refine aA rfl f (ax (ak (ai (aG pE rfl 1 rfl wz (aF 0 0 il ft sz3 ag3 rfl rfl (vI a.To) rfl wz (aG pM rfl 0 rfl wz (aF 0 0 il ft sz3 ag3 rfl rfl (vI a.From) rfl wz (aa (vI (w64 (a.To-a.From))) (aa (vB (decide ((w64 (a.To-a.From))>34560000000))) (af ?_))))))))))
   rcases aj b with⟨g,b⟩|⟨g,b⟩
   ·refine aB rfl g (ai (aa (vI 2) (af ?_)))
    obtain rfl:=ae b
    exact ay (aK [(vI 2)] ⟨rfl,trivial⟩)
   ·refine aA rfl g (ax (ai (aa (vI 0) (af ?_))))
    obtain rfl:=ae b
    exact ay (aK [(vI 0)] ⟨rfl,trivial⟩)
theorem Dj {b:Int} {c:Int} {r:Bool} (d:cmp_Less_int b c=some r) :
  FnM Tryz.prog 160 [(vI b),(vI c)] [] (vB r) []:=by
 refine FnM.of_wH ⟨Tryz.prog,17,[],[]⟩ rfl Tryz.func160 rfl rfl (lb_ rfl) (by kernel_rfl) ?_
 unfold cmp_Less_int at d
 refine ai (aa (vB false) (af (ak ?_)))
 obtain ⟨h,a,d⟩:=bind_some d
 refine aP [(4,(vB h))] [] ?_ ?_
 ·refine av (aa (vI b) ?_)
  obtain ⟨n,k,a⟩:=bind_some a
  refine aD (mF k) rfl Nc rfl rfl rfl rfl wz ?_
  rcases aj a with⟨f,a⟩|⟨f,a⟩
  ·refine aC rfl f wz (aI (vI c) wa rfl ?_)
   obtain ⟨g,l,a⟩:=bind_some a
   refine aD (mF l) rfl Nc rfl rfl rfl rfl wa (aI (vB (!g)) wa rfl (aa (vB (!g)) ?_))
   rcases aj a with⟨e,a⟩|⟨e,a⟩
   ·refine aC rfl e wz (ah (ah (ah (aa (vB true) (aa (vB true) (af ?_))))))
    obtain rfl:=ae a
    exact cu
   ·refine aC rfl e wz (aI (vI b) wa rfl (aI (vI c) wa rfl (aI (vB (decide (b<c))) wa rfl (aa (vB (decide (b<c))) (aa (vB (decide (b<c))) (af ?_))))))
    obtain rfl:=ae a
    exact cu
  ·refine aC rfl f wz (ah (ah (ah (aa (vB false) (aa (vB false) (aI (vI b) wa rfl (aI (vI c) wa rfl (aI (vB (decide (b<c))) wa rfl (aa (vB (decide (b<c))) (aa (vB (decide (b<c))) (af ?_)))))))))))
   obtain rfl:=ae a
   exact cu
 ·rintro ⟨⟩ _ o m i j
  refine aN _ i j ?_
  obtain rfl:=ae d
  exact ay (aK [(vB h)] ⟨rfl,trivial⟩)
theorem qN {a:Int} {r:Bool} (b:iZ a=some r) :
  FnM Tryz.prog 165 [(vI a)] [] (vB r) []:=by
 refine FnM.of_wH ⟨Tryz.prog,6,[],[]⟩ rfl Tryz.func165 rfl rfl (lb_ rfl) (by kernel_rfl) ?_
 unfold iZ at b
 refine ai (aa (vB false) (af (ai (aa (vI a) (aa (vI a) (aa (vB (a != a)) (aa (vB (a != a)) (af ?_))))))))
 obtain rfl:=ae b
 exact ay (aK [(vB (a != a))] ⟨rfl,trivial⟩)
theorem pu {c:(List Int)} {f:Int} {r:Int×Bool} (h:dX c f=some r) :
  FnM Tryz.prog 128 [(vL eI c),(vI f)] [] (.tup [(vI r.1),(vB r.2)]) []:=by
 refine FnM.of_wH ⟨Tryz.prog,54,[],[]⟩ rfl Tryz.func128 rfl rfl (lb_ rfl) (by kernel_rfl) ?_
 unfold dX at h
 refine ai (aa (vI 0) (aa (vB false) (af (ai (aa (vL eI c) (bL wW rfl wz (aa (vI (c.length:Int)) (af (ai (aa (vI (c.length:Int)) (aa (vI 0) (aa (vI (c.length:Int)) (af (ak ?_))))))))))))))
 obtain ⟨H,p,h⟩:=bind_some h
 obtain ⟨G,p⟩:=fe p
 refine iA (λ(a:Int×Int)=>[(0,(vL eI c)),(1,(vI f)),(6,(vI (c.length:Int))),(7,(vI a.1))]) (λ(a:Int×Int)=>[]) (λ(i:Nat)=>(λ(a:Int×Int)=>[(0,(vL eI c)),(1,(vI f)),(6,(vI (c.length:Int))),(7,(vI a.1)),(8,(vI a.2))])) (λs=>eP c f s) H G (0,(c.length:Int)) p rfl (aJ rfl) ?_ ?_
 ·rintro ⟨i,a⟩ g
  dsimp only at g
  cases i with
  | zero=>cases g
  | succ i =>
   obtain ⟨L,d,g⟩:=bind_some g
   unfold eP at d
   refine ak (ai (aa (vI a.1) (aa (vI a.2) (aa (vB (decide (a.1<a.2))) (af ?_)))))
   rcases aj d with⟨k,d⟩|⟨k,d⟩
   ·refine aB rfl k (ax (aM (ai (aa (vI a.1) (aa (vI a.2) (aa (vI (w64 (a.1+a.2))) (xJ un3 un93 rfl wz ?_)))))))
    obtain ⟨e,F,d⟩:=bind_some d
    refine NJ rfl rfl F wz (xJ un93 un3 rfl wz (aa (vI (w64 e)) (af (ai (aa (vL eI c) (aa (vI (w64 e)) ?_))))))
    obtain ⟨J,B,d⟩:=bind_some d
    refine dC lG rfl rfl B rfl wz (bC sz3 ag3 rfl (vI J) rfl wz (aa (vI f) ?_))
    obtain ⟨M,y,d⟩:=bind_some d
    refine aD (Dj y) rfl hb160 rfl rfl rfl rfl wz (af ?_)
    rcases aj d with⟨l,d⟩|⟨l,d⟩
    ·refine aB rfl l (av (aa (vI (w64 e)) (aa (vI (w64 ((w64 e)+1))) (aa (vI (w64 ((w64 e)+1))) (af ?_)))))
     obtain rfl:=ae d
     exact bf (i,((w64 ((w64 e)+1)),a.2)) g (ls_ _) rfl (aJ rfl)
    ·refine aA rfl l (av (aa (vI (w64 e)) (aa (vI (w64 e)) (af ?_))))
     obtain rfl:=ae d
     exact bf (i,(a.1,(w64 e))) g (ls_ _) rfl (aJ rfl)
   ·refine aA rfl k (bg ?_)
    obtain rfl:=ae d
    obtain rfl:=ae g
    exact aY ((a.1,a.2)) rfl rfl (aJ rfl)
 ·rintro a x I w q t
  subst x
  refine aN _ q t (ak ?_)
  obtain ⟨u,b,h⟩:=bind_some h
  refine aP [(4,(vI a.1)),(5,(vB u))] [] ?_ ?_
  ·refine av (aa (vI a.1) (aa (vI a.1) (aa (vI (c.length:Int)) (aa (vB (decide (a.1<(c.length:Int)))) ?_))))
   rcases aj b with⟨m,b⟩|⟨m,b⟩
   ·refine aC rfl m wz (aI (vL eI c) wa rfl (aI (vI a.1) wa rfl ?_))
    obtain ⟨v,C,b⟩:=bind_some b
    refine dC lG rfl rfl C rfl wa (bC sz3 ag3 rfl (vI v) rfl wa (aI (vI f) wa rfl (aI (vB (v==f)) wa rfl ?_)))
    rcases aj b with⟨n,b⟩|⟨n,b⟩
    ·refine aC rfl n wa (ah (ah (ah (ah (ah (ah (bR (wn rfl rfl) (bR (wn rfl rfl) (ah (aI (vB true) wa rfl (aa (vB true) (aa (vI a.1) (aa (vB true) (af ?_))))))))))))))
     obtain rfl:=ae b
     exact cu
    ·refine aC rfl n wa (aI (vL eI c) wa rfl (aI (vI a.1) wa rfl ?_))
     obtain ⟨K,E,b⟩:=bind_some b
     refine dC lG rfl rfl E rfl wa (bC sz3 ag3 rfl (vI K) rfl wa ?_)
     obtain ⟨N,z,b⟩:=bind_some b
     refine aD (qN z) rfl hb165 rfl rfl rfl rfl wa ?_
     rcases aj b with⟨o,b⟩|⟨o,b⟩
     ·refine aC rfl o wa (aI (vI f) wa rfl ?_)
      obtain ⟨j,A,b⟩:=bind_some b
      refine aD (qN A) rfl hb165 rfl rfl rfl rfl wa (aI (vB j) wa rfl (aI (vB j) wa rfl (aa (vB j) (aa (vI a.1) (aa (vB j) (af ?_))))))
      obtain rfl:=ae b
      exact cu
     ·refine aC rfl o wa (ah (ah (aI (vB false) wa rfl (aI (vB false) wa rfl (aa (vB false) (aa (vI a.1) (aa (vB false) (af ?_))))))))
      obtain rfl:=ae b
      exact cu
   ·refine aC rfl m wz (ah (ah (ah (ah (ah (ah (ah (bR (wn rfl rfl) (bR (wn rfl rfl) (bR (wn rfl rfl) (bR (wn rfl rfl) (bR (wn rfl rfl) (bR (wn rfl rfl) (bR (wn rfl rfl) (bR (wn rfl rfl) (bR (wn rfl rfl) (ah (aa (vB false) (aa (vI a.1) (aa (vB false) (af ?_)))))))))))))))))))))
    obtain rfl:=ae b
    exact cu
  ·rintro ⟨⟩ _ I w q t
   refine aN _ q t ?_
   obtain rfl:=ae h
   exact ay (aK [(vI a.1),(vB u)] ⟨rfl,⟨rfl,trivial⟩⟩)
theorem Bl {b:Entry} {f:Int} {r:Bool} (c:l5 b f=some r) :
  FnM Tryz.prog 94 [(.d (.agg (Entry.enc b))),(vI f)] [] (vB r) []:=by
 refine FnM.of_wH ⟨Tryz.prog,41,[],[]⟩ rfl Tryz.func94 rfl rfl (lb_ rfl) (by kernel_rfl) ?_
 unfold l5 at c
 refine ai (iW 0 (.inl rfl) (Entry.v b) rfl rfl wz (λk=>aa (vB false) (af (ak (ak ?_)))))
 obtain ⟨t,a,c⟩:=bind_some c
 refine aP [(1,(vI f)),(2,(.ref k 0 0)),(31,(vB t))] [(k,some (.cells 13 (Entry.v b)))] ?_ ?_
 ·refine bD (aa (vI f) (aG Ja rfl 3 rfl wz (aF 2 0 (.inr (by kernel_rfl)) (λ_ _ ag=>trivial) sz3 ag3 rfl rfl (vI b.First) rfl wz (aG IJ rfl 4 rfl wz (aF 4 0 (.inr (by kernel_rfl)) (λ_ _ ag=>⟨.inl ⟨rfl,rfl⟩,trivial⟩) sz3 ag3 rfl rfl (vI b.Last) rfl wz ?_)))))
  obtain ⟨w,p,a⟩:=bind_some a
  refine aD (bv p) rfl rU rfl rfl rfl rfl wz ?_
  rcases aj a with⟨i,a⟩|⟨i,a⟩
  ·refine aC rfl i wz (ah (ah (ah (ah (ah (ah (ah (ah (aa (vB true) (aa (vB true) (ah (ah (ah (ah (ah (ah (ah (aa (vB true) (af ?_)))))))))))))))))))
   obtain rfl:=ae a
   exact cu
  ·refine aC rfl i wz (aI (vI f) wa rfl (aG Ja rfl 3 rfl wa (aF 9 0 (.inr (by kernel_rfl)) (λ_ _ ag=>⟨.inl ⟨rfl,rfl⟩,⟨.inl ⟨rfl,rfl⟩,trivial⟩⟩) sz3 ag3 rfl rfl (vI b.First) rfl wa (aI (vI (w64 (f-b.First))) wa rfl (aG Q0 rfl 5 rfl wa (aF 12 0 (.inr (by kernel_rfl)) (λ_ _ ag=>⟨.inl ⟨rfl,rfl⟩,⟨.inl ⟨rfl,rfl⟩,⟨.inl ⟨rfl,rfl⟩,trivial⟩⟩⟩) sz3 ag3 rfl rfl (vI b.Every) rfl wa ?_))))))
   obtain ⟨l,q,a⟩:=bind_some a
   refine PX rfl rfl q wa (aI (vB (l != 0)) wa rfl (aa (vB (l != 0)) ?_))
   rcases aj a with⟨g,a⟩|⟨g,a⟩
   ·refine aC rfl g wz (ah (ah (ah (ah (ah (ah (ah (aa (vB true) (af ?_)))))))))
    obtain rfl:=ae a
    exact cu
   ·refine aC rfl g wz (aG Qp rfl 6 rfl wa (aF 18 0 (.inr (by kernel_rfl)) (λ_ _ ag=>⟨.inl ⟨rfl,rfl⟩,⟨.inl ⟨rfl,rfl⟩,⟨.inl ⟨rfl,rfl⟩,⟨.inl ⟨rfl,rfl⟩,trivial⟩⟩⟩⟩) sz3 ag3 rfl rfl (vI b.Days) rfl wa (aI (vI f) wa rfl (aI (vI (f.tmod 7)) wa rfl ?_))))
    obtain ⟨j,s,a⟩:=bind_some a
    refine h_shl rfl rfl s wa (aI (vI (PK .i64 b.Days j)) wa rfl (aI (vB ((PK .i64 b.Days j)==0)) wa rfl (aa (vB ((PK .i64 b.Days j)==0)) (af ?_))))
    obtain rfl:=ae a
    exact cu
 ·rintro ⟨⟩ _ x u m n
  refine aN _ m n ?_
  rcases aj c with⟨h,c⟩|⟨h,c⟩
  ·refine aB rfl h (ai (aa (vB false) (af ?_)))
   obtain rfl:=ae c
   exact ay (aK [(vB false)] ⟨rfl,trivial⟩)
  ·refine aA rfl h (ax (ai (aG Rn rfl 7 rfl wz (aF 0 0 il ft PD Pz rfl rfl (vL eI b.Except) rfl wz (aa (vI f) ?_)))))
   obtain ⟨e,o,c⟩:=bind_some c
   refine aD (pu o) rfl hb128 rfl rfl rfl rfl wz (aa (.tup [(vI e.1),(vB e.2)]) (aa (vI e.1) (aa (vB e.2) (aa (vI e.1) (aa (vB e.2) (af (ai (aa (vB e.2) (aa (vB (!e.2)) (aa (vB (!e.2)) (af ?_)))))))))))
   obtain rfl:=ae c
   exact ay (aK [(vB (!e.2))] ⟨rfl,trivial⟩)
theorem zY {a:Entry} {c:Int} {b:Int} {r:Window} (g:nG a c b=some r) :
  FnM Tryz.prog 95 [(.d (.agg (Entry.enc a))),(vI c),(vI b)] [] (.d (.agg (Window.enc r))) []:=by
 refine FnM.of_wH ⟨Tryz.prog,32,[],[]⟩ rfl Tryz.func95 rfl rfl (lb_ rfl) (by kernel_rfl) ?_
 unfold nG at g
 refine ai (iW 0 (.inl rfl) (Entry.v a) rfl rfl wz (λi=>dP 0 (.inl rfl) z77 rfl wz (λj=>af (ai (aG Qw rfl 9 rfl wz (aF 0 0 il ft sz3 ag3 rfl rfl (vI a.To) rfl wz (aG ME rfl 8 rfl wz (aF 0 0 il ft sz3 ag3 rfl rfl (vI a.From) rfl wz (aa (vI (w64 (a.To-a.From))) (aa (vI (w64 (a.To-a.From))) (af (ak (ai (aa (vI (w64 (a.To-a.From))) (aa (vB (decide ((w64 (a.To-a.From))<=0))) (af ?_))))))))))))))))
 obtain ⟨e,f,g⟩:=bind_some g
 refine aP [(1,(vI c)),(2,(vI b)),(3,(.ref i 0 0)),(6,(.ref j 0 0)),(7,(vI e))] [(i,some (.cells 13 (Entry.v a))),(j,some (.cells 2 [(vI 0),(vI 0)]))] ?_ ?_
 ·rcases aj f with⟨h,f⟩|⟨h,f⟩
  ·refine aB rfl h (av (aa (vI (w64 (a.To-a.From))) (aa (vI (w64 ((w64 (a.To-a.From))+1440))) (aa (vI (w64 ((w64 (a.To-a.From))+1440))) (af ?_)))))
   obtain rfl:=ae f
   exact cu
  ·refine aA rfl h (ax ?_)
   obtain rfl:=ae f
   exact cu
 ·rintro ⟨⟩ _ n m k l
  refine aN _ k l (ai (aa (vI b) (aa (vI (w64 (b*1440))) (aG ME rfl 8 rfl wz (aF 0 0 il ft sz3 ag3 rfl rfl (vI a.From) rfl wz (aa (vI (w64 ((w64 (b*1440))+a.From))) (aa (vI c) (aa (vI (w64 ((w64 ((w64 (b*1440))+a.From))-c))) (aa (vI (w64 ((w64 ((w64 ((w64 (b*1440))+a.From))-c))*60000))) (aa (vI (w64 ((w64 ((w64 ((w64 (b*1440))+a.From))-c))*60000))) (af (ai (aa (vI (w64 ((w64 ((w64 ((w64 (b*1440))+a.From))-c))*60000))) (aa (vI (w64 ((w64 ((w64 ((w64 (b*1440))+a.From))-c))*60000))) (aa (vI e) (aa (vI (w64 (e*60000))) (aa (vI (w64 ((w64 ((w64 ((w64 ((w64 (b*1440))+a.From))-c))*60000))+(w64 (e*60000))))) (aI (.d (.agg (Window.enc (⟨(w64 ((w64 ((w64 ((w64 (b*1440))+a.From))-c))*60000)),(w64 ((w64 ((w64 ((w64 ((w64 (b*1440))+a.From))-c))*60000))+(w64 (e*60000))))⟩:Window)))) wz (by kernel_rfl) (gy 0 il ft 1 zV rfl rfl [(vI (w64 ((w64 ((w64 ((w64 (b*1440))+a.From))-c))*60000))),(vI (w64 ((w64 ((w64 ((w64 ((w64 (b*1440))+a.From))-c))*60000))+(w64 (e*60000)))))] rfl wz (af ?_))))))))))))))))))))
  obtain rfl:=ae g
  exact ay (aK [(.d (.agg (Window.enc (⟨(w64 ((w64 ((w64 ((w64 (b*1440))+a.From))-c))*60000)),(w64 ((w64 ((w64 ((w64 ((w64 (b*1440))+a.From))-c))*60000))+(w64 (e*60000))))⟩:Window))))] ⟨⟨1,_,_,_,_,_,_,_,rfl,rfl,zV,Jo,rfl⟩,trivial⟩)
theorem Dn {a:Window} {b:Window} {r:Window} (c:vY a b=some r) :
  FnM Tryz.prog 55 [(.d (.agg (Window.enc a))),(.d (.agg (Window.enc b)))] [] (.d (.agg (Window.enc r))) []:=by
 refine FnM.of_wH ⟨Tryz.prog,16,[],[]⟩ rfl Tryz.func55 rfl rfl (lb_ rfl) (by kernel_rfl) ?_
 unfold vY at c
 refine ai (iW 0 (.inl rfl) [(vI a.From),(vI a.To)] rfl rfl wz (λe=>iW 0 (.inl rfl) [(vI b.From),(vI b.To)] rfl rfl wz (λf=>dP 0 (.inl rfl) z77 rfl wz (λg=>af (ai (aG pM rfl 0 rfl wz (aF 0 0 il ft sz3 ag3 rfl rfl (vI a.From) rfl wz (aG pM rfl 0 rfl wz (aF 0 1 il ft sz3 ag3 rfl rfl (vI b.From) rfl wz (uD (vI (uQ a.From b.From)) rfl (.inr rfl) wz (aG pE rfl 1 rfl wz (aF 0 0 il ft sz3 ag3 rfl rfl (vI a.To) rfl wz (aG pE rfl 1 rfl wz (aF 0 1 il ft sz3 ag3 rfl rfl (vI b.To) rfl wz (uD (vI (JL a.To b.To)) rfl (.inl rfl) wz (aI (.d (.agg (Window.enc (⟨(uQ a.From b.From),(JL a.To b.To)⟩:Window)))) wz (by kernel_rfl) (gy 0 il ft 2 zV rfl rfl [(vI (uQ a.From b.From)),(vI (JL a.To b.To))] rfl wz (af ?_))))))))))))))))))
 obtain rfl:=ae c
 exact ay (aK [(.d (.agg (Window.enc (⟨(uQ a.From b.From),(JL a.To b.To)⟩:Window))))] ⟨⟨2,_,_,_,_,_,_,_,rfl,rfl,zV,Jo,rfl⟩,trivial⟩)
end Go.Proofs.YtljhfffghjclfabGreatDoor.Law

