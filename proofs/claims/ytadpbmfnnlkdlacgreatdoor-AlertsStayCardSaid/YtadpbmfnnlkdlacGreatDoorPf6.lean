/-
 The machine computes these plain functions (written by a program of ours).
-/
import Derived.Test.YtadpbmfnnlkdlacGreatDoorFacts
import Derived.Test.YtadpbmfnnlkdlacGreatDoorDefs
import Derived.Test.YtadpbmfnnlkdlacGreatDoorPf5
open Go Go.Eng Go.Proofs
namespace Go.Proofs.YtadpbmfnnlkdlacGreatDoor.Law
set_option maxRecDepth 100000
set_option linter.unusedVariables false
set_option maxHeartbeats 1000000
theorem He {c:(List Run)} {f:(List Run)} {r:(List Run)} (O:tC c f=some r) :
  FnM Tryz.prog 136 [(vL Run.enc c),(vL Run.enc f)] [] (vL Run.enc r) []:=by
 refine FnM.of_wH ⟨Tryz.prog,88,[],[]⟩ rfl Tryz.func136 rfl rfl (lb_ rfl) (by kernel_rfl) ?_
 unfold tC at O
 refine ai (aa .nil (ah (ai (aa .nil (ah (ai (aa (vI 0) (ah (ak (ai (aa (vL Run.enc c) (bJ Bu rfl wz (aa (vI 0) (ah (jl (λÔ => ?_))))))))))))))))
 obtain ⟨Ø,Á,O⟩:=bind_some O
 obtain ⟨Ì,Á⟩:=aS Á
 refine gq (σ:=(List Run)×Int) (N:=Nm) (λp=>(λ(g:(List Run)×Int) (h:Nm)=>([(5,(gV h 2 g.1))]:SL_)) p.1 p.2) (λp=>(λ(g:(List Run)×Int) (h:Nm)=>([(h,gB 2 Run.enc g.1)]:Hp)) p.1 p.2) (λ(l:Nat)=>(λp=>(λ(g:(List Run)×Int) (h:Nm)=>([(1,(vL Run.enc f)),(5,(gV h 2 g.1)),(6,(vI g.2)),(10,(vL Run.enc c)),(11,(vI (c.length:Int))),(12,(vI (l:Int)))]:SL_)) p.1 p.2)) (λk x s=>oK f k x s) Ø c ((([]:List Run),0),Ô) Á rfl (aG rfl) ?_ ?_
 ·rintro ⟨l,Ä,g,h⟩ ⟨G,B⟩
  dsimp only at G B
  cases Ä with
  | nil =>
   obtain rfl:=ae G
   refine ai (aa (vB (decide ((l:Int)<(c.length:Int)))) (ah ?_))
   refine ak (ay rfl (drop_nil B) (aX ?_))
   exact aU (g,h) rfl rfl (aG rfl)
  | cons b Ä =>
   obtain ⟨Ç,u,G⟩:=bind_some G
   refine ai (aa (vB (decide ((l:Int)<(c.length:Int)))) (ah ?_))
   refine ak (aA rfl (aZ B) (av ?_))
   unfold oK at u
   refine ak (aK (ai (dK oJ rfl rfl (bz B) rfl wz (bK qL Ac rfl (.d (.agg (Run.enc b))) rfl wz (bZ 0 (.inl rfl) Oc rfl wz (λq=>gp 0 il ft 1 qL rfl rfl [(vI b.f_from),(vI b.f_to)] rfl wz (ah (ak ?_))))))))
   obtain ⟨Ù,Â,u⟩:=bind_some u
   obtain ⟨Ö,Â⟩:=dF Â
   refine eU (λ(e:Int)=>[(1,(vL Run.enc f)),(5,(gV h 2 g.1)),(6,(vI e)),(8,(.ref q 0 0)),(10,(vL Run.enc c)),(11,(vI (c.length:Int))),(12,(vI (l:Int)))]) (λ(e:Int)=>[(h,gB 2 Run.enc g.1),(q,some (.cells 2 [(vI b.f_from),(vI b.f_to)]))]) (λ(P:Nat)=>(λ(e:Int)=>[(1,(vL Run.enc f)),(5,(gV h 2 g.1)),(6,(vI e)),(8,(.ref q 0 0)),(10,(vL Run.enc c)),(11,(vI (c.length:Int))),(12,(vI (l:Int)))])) (λs=>rA f b s) Ù Ö g.2 Â rfl (aG rfl) ?_ ?_
   ·rintro ⟨P,e⟩ C
    dsimp only at C
    cases P with
    | zero=>cases C
    | succ P =>
     obtain ⟨Ç,v,C⟩:=bind_some C
     unfold rA at v
     refine ak (ak ?_)
     obtain ⟨Û,w,v⟩:=bind_some v
     refine aR [(1,(vL Run.enc f)),(5,(gV h 2 g.1)),(6,(vI e)),(8,(.ref q 0 0)),(10,(vL Run.enc c)),(11,(vI (c.length:Int))),(12,(vI (l:Int))),(29,(vB Û))] [(h,gB 2 Run.enc g.1),(q,some (.cells 2 [(vI b.f_from),(vI b.f_to)]))] ?_ ?_
     ·refine bv (aa (vI e) (aa (vL Run.enc f) (bJ Bu rfl wz (aa (vB (decide (e<(f.length:Int)))) ?_))))
      rcases aj w with⟨U,w⟩|⟨U,w⟩
      ·refine aF rfl U wz (aJ (vL Run.enc f) wa rfl (aJ (vI e) wa rfl ?_))
       obtain ⟨R,Í,w⟩:=bind_some w
       refine dK oJ rfl rfl Í rfl wa (uJ uR rfl [.int .i64 R.f_to] rfl rfl wa (bK sz3 ag3 rfl (vI R.f_to) rfl wa (aH nT rfl 0 rfl wa (aC 11 1 (.inr (by kernel_rfl)) (λ_ _ ag=>trivial) sz3 ag3 rfl rfl (vI b.f_from) rfl wa (aJ (vB (decide (R.f_to<=b.f_from))) wa rfl (aa (vB (decide (R.f_to<=b.f_from))) (ah ?_)))))))
       obtain rfl:=ae w
       exact cu
      ·refine aF rfl U wz (af (af (af (af (af (af (af (af (aa (vB false) (ah ?_))))))))))
       obtain rfl:=ae w
       exact cu
     ·rintro ⟨⟩ _ F A n o
      refine aN _ n o ?_
      rcases aj v with⟨W,v⟩|⟨W,v⟩
      ·refine aA rfl W (av (aK (au (aa (vI e) (aa (vI (w64 (e+1))) (aa (vI (w64 (e+1))) (ah ?_)))))))
       obtain rfl:=ae v
       exact aV (P,(w64 (e+1))) C (ls_ _) rfl (aG rfl)
      ·refine ay rfl W (aX ?_)
       obtain rfl:=ae v
       obtain rfl:=ae C
       exact aU (e) rfl rfl (aG rfl)
   ·rintro e H F A n o
    subst H
    refine aN _ n o (ak (ai (aa (vI e) (aa (vI e) (ah ?_)))))
    obtain ⟨Ú,Ã,u⟩:=bind_some u
    obtain ⟨Õ,Ã⟩:=dF Ã
    refine Ni (σ:=(List Run)×Int×Int) (N:=Nm) (λp=>(λ(a:(List Run)×Int×Int) (m:Nm)=>([(1,(vL Run.enc f)),(5,(gV m 2 a.1)),(6,(vI e)),(8,(.ref q 0 0)),(10,(vL Run.enc c)),(11,(vI (c.length:Int))),(12,(vI (l:Int)))]:SL_)) p.1 p.2) (λp=>(λ(a:(List Run)×Int×Int) (m:Nm)=>([(m,gB 2 Run.enc a.1),(q,some (.cells 2 [(vI a.2.2),(vI b.f_to)]))]:Hp)) p.1 p.2) (λ(Q:Nat)=>(λp=>(λ(a:(List Run)×Int×Int) (m:Nm)=>([(1,(vL Run.enc f)),(5,(gV m 2 a.1)),(6,(vI e)),(8,(.ref q 0 0)),(9,(vI a.2.1)),(10,(vL Run.enc c)),(11,(vI (c.length:Int))),(12,(vI (l:Int)))]:SL_)) p.1 p.2)) (λs=>qV f b s) Ú Õ ((g.1,e,b.f_from),h) Ã rfl (aG rfl) ?_ ?_
    ·rintro ⟨Q,a,m⟩ E
     dsimp only at E
     cases Q with
     | zero=>cases E
     | succ Q =>
      obtain ⟨Ç,j,E⟩:=bind_some E
      unfold qV at j
      refine ak (ak ?_)
      obtain ⟨Ü,y,j⟩:=bind_some j
      refine aR [(1,(vL Run.enc f)),(5,(gV m 2 a.1)),(6,(vI e)),(8,(.ref q 0 0)),(9,(vI a.2.1)),(10,(vL Run.enc c)),(11,(vI (c.length:Int))),(12,(vI (l:Int))),(46,(vB Ü))] [(m,gB 2 Run.enc a.1),(q,some (.cells 2 [(vI a.2.2),(vI b.f_to)]))] ?_ ?_
      ·refine bv (aa (vI a.2.1) (aa (vL Run.enc f) (bJ Bu rfl wz (aa (vB (decide (a.2.1<(f.length:Int)))) ?_))))
       rcases aj y with⟨X,y⟩|⟨X,y⟩
       ·refine aF rfl X wz (aJ (vL Run.enc f) wa rfl (aJ (vI a.2.1) wa rfl ?_))
        obtain ⟨K,Î,y⟩:=bind_some y
        refine dK oJ rfl rfl Î rfl wa (uJ nT rfl [.int .i64 K.f_from,.int .i64 K.f_to] rfl rfl wa (bK sz3 ag3 rfl (vI K.f_from) rfl wa (aH uR rfl 1 rfl wa (aC 11 1 (.inr (by kernel_rfl)) (λ_ _ ag=>trivial) sz3 ag3 rfl rfl (vI b.f_to) rfl wa (aJ (vB (decide (K.f_from<b.f_to))) wa rfl (aa (vB (decide (K.f_from<b.f_to))) (ah ?_)))))))
        obtain rfl:=ae y
        exact cu
       ·refine aF rfl X wz (af (af (af (af (af (af (af (af (aa (vB false) (ah ?_))))))))))
        obtain rfl:=ae y
        exact cu
      ·rintro ⟨⟩ _ F A n o
       refine aN _ n o ?_
       rcases aj j with⟨Y,j⟩|⟨Y,j⟩
       ·refine aA rfl Y (av (ak (aK (ak (ak (bv (aa (vL Run.enc f) (aa (vI a.2.1) ?_))))))))
        obtain ⟨T,Ï,j⟩:=bind_some j
        refine dK oJ rfl rfl Ï rfl wz (uJ nT rfl [.int .i64 T.f_from,.int .i64 T.f_to] rfl rfl wz (bK sz3 ag3 rfl (vI T.f_from) rfl wz (aH nT rfl 0 rfl wz (aC 6 1 (.inr (by kernel_rfl)) (λ_ _ ag=>trivial) sz3 ag3 rfl rfl (vI a.2.2) rfl wz (aa (vB (decide (T.f_from>a.2.2))) (ah ?_))))))
        obtain ⟨Å,t,j⟩:=bind_some j
        refine kT (β:=Nm) (λ(I:Nm)=>([(1,(vL Run.enc f)),(5,(gV I 2 Å)),(6,(vI e)),(8,(.ref q 0 0)),(9,(vI a.2.1)),(10,(vL Run.enc c)),(11,(vI (c.length:Int))),(12,(vI (l:Int)))]:SL_)) (λ(I:Nm)=>([(I,gB 2 Run.enc Å),(q,some (.cells 2 [(vI a.2.2),(vI b.f_to)]))]:Hp)) (λ_=>True) ?_ ?_
        ·rcases aj t with⟨Z,t⟩|⟨Z,t⟩
         ·refine aA rfl Z (bv (aa (gV m 2 a.1) (aH nT rfl 0 rfl wz (aC 2 1 (.inr (by kernel_rfl)) (λ_ _ ag=>trivial) sz3 ag3 rfl rfl (vI a.2.2) rfl wz (aa (vL Run.enc f) (aa (vI a.2.1) ?_))))))
          obtain ⟨L,Ð,t⟩:=bind_some t
          refine dK oJ rfl rfl Ð rfl wz (uJ nT rfl [.int .i64 L.f_from,.int .i64 L.f_to] rfl rfl wz (bK sz3 ag3 rfl (vI L.f_from) rfl wz (aJ (.d (.agg (Run.enc (⟨a.2.2,L.f_from⟩:Run)))) wz (by kernel_rfl) (dW (([(⟨a.2.2,L.f_from⟩:Run)]:List Run).map Run.enc) oJ OY rfl rfl rfl rfl rfl wz ?_))))
          obtain ⟨Ê,Ò,t⟩:=bind_some t
          refine lh 10 (.inr (by kernel_rfl)) (λ_ _ ag=>⟨.inr (.inr (by kernel_rfl)),trivial⟩) (i:=0) EO EO qL Oc rfl (by decide) Pf (by decide) (λ_=>rfl) rfl rfl rfl Ò wz (λÈ=>aa (gV È 2 Ê) (ah ?_))
          obtain rfl:=ae t
          exact aU È trivial rfl (aG rfl)
         ·refine ay rfl Z (av ?_)
          obtain rfl:=ae t
          exact aU m trivial rfl (aG rfl)
        ·rintro I _ F A n o
         refine aN _ n o (bv (aH nT rfl 0 rfl wz (aC 1 1 (.inr (by kernel_rfl)) (λ_ _ ag=>trivial) sz3 ag3 rfl rfl (vI a.2.2) rfl wz (aa (vL Run.enc f) (aa (vI a.2.1) ?_)))))
         obtain ⟨M,Ñ,j⟩:=bind_some j
         refine dK oJ rfl rfl Ñ rfl wz (uJ uR rfl [.int .i64 M.f_to] rfl rfl wz (bK sz3 ag3 rfl (vI M.f_to) rfl wz (vG (vI (xH a.2.2 M.f_to)) rfl (.inr rfl) wz (aH nT rfl 0 rfl wz (gp 9 (.inr (by kernel_rfl)) (λ_ _ ag=>⟨.inr (.inr (by kernel_rfl)),trivial⟩) 1 sz3 rfl rfl [(vI (xH a.2.2 M.f_to)),(vI b.f_to)] rfl wz (ah (au (aa (vI a.2.1) (aa (vI (w64 (a.2.1+1))) (aa (vI (w64 (a.2.1+1))) (ah ?_)))))))))))
         obtain rfl:=ae j
         exact aV (Q,(Å,(w64 (a.2.1+1)),(xH a.2.2 M.f_to)),I) E (ls_ _) rfl (aG rfl)
       ·refine ay rfl Y (aX ?_)
        obtain rfl:=ae j
        obtain rfl:=ae E
        exact aU ((a.1,a.2.1,a.2.2),m) rfl rfl (aG rfl)
    ·rintro ⟨a,m⟩ H F A n o
     subst H
     refine aN _ n o (ai (aH nT rfl 0 rfl wz (aC 0 1 il ft sz3 ag3 rfl rfl (vI a.2.2) rfl wz (aH uR rfl 1 rfl wz (aC 0 1 il ft sz3 ag3 rfl rfl (vI b.f_to) rfl wz (aa (vB (decide (a.2.2<b.f_to))) (ah ?_)))))))
     obtain ⟨Æ,z,u⟩:=bind_some u
     refine kT (β:=Nm) (λ(J:Nm)=>([(1,(vL Run.enc f)),(5,(gV J 2 Æ)),(6,(vI e)),(10,(vL Run.enc c)),(11,(vI (c.length:Int))),(12,(vI (l:Int)))]:SL_)) (λ(J:Nm)=>([(J,gB 2 Run.enc Æ),(q,some (.cells 2 [(vI a.2.2),(vI b.f_to)]))]:Hp)) (λ_=>True) ?_ ?_
     ·rcases aj z with⟨À,z⟩|⟨À,z⟩
      ·refine aA rfl À (au (aa (gV m 2 a.1) (aC 0 1 il ft qL Ac rfl rfl (.d (.agg (Run.enc (⟨a.2.2,b.f_to⟩:Run)))) rfl wz (dW (([(⟨a.2.2,b.f_to⟩:Run)]:List Run).map Run.enc) oJ OY rfl rfl rfl rfl rfl wz ?_))))
       obtain ⟨Ë,Ó,z⟩:=bind_some z
       refine lh 0 il ft (i:=0) EO EO qL Oc rfl (by decide) Pf (by decide) (λ_=>rfl) rfl rfl rfl Ó wz (λÉ=>aa (gV É 2 Ë) (ah ?_))
       obtain rfl:=ae z
       exact aU É trivial rfl (aG rfl)
      ·refine ay rfl À (av ?_)
       obtain rfl:=ae z
       exact aU m trivial rfl (aG rfl)
     ·rintro J _ F A n o
      refine aN _ n o (au (dx (bf B Ì) wz rfl (aa (vI ((l+1:Nat):Int)) (ah ?_))))
      obtain rfl:=ae u
      exact aV (l+1,Ä,(Æ,e),J) ⟨G,aP B⟩ (ls_ _) rfl (aG rfl)
 ·rintro ⟨g,h⟩ H F A n o
  subst H
  refine aN _ n o (ai (aa (gV h 2 g.1) (aa (gV h 2 g.1) (ah (jP 0 rfl (fI 4 0 rfl rfl (fI 5 0 rfl rfl (fI 87 0 rfl rfl ?_))))))))
  obtain rfl:=ae O
  exact aB (aM [(vL Run.enc g.1)] ⟨rfl,trivial⟩)
theorem oW {s1_1:(List Run)} {s2_2:(List Run)} {r:Bool} (b:fF s1_1 s2_2=some r) :
  FnM Tryz.prog 138 [(vL Run.enc s1_1),(vL Run.enc s2_2)] [] (vB r) []:=by
 refine FnM.of_wH ⟨Tryz.prog,26,[],[]⟩ rfl Tryz.func138 rfl rfl (lb_ rfl) (by kernel_rfl) ?_
 unfold fF at b
 refine ai (aa (vB false) (ah (ak (ai (aa (vL Run.enc s1_1) (bJ Bu rfl wz (aa (vL Run.enc s2_2) (bJ Bu rfl wz (aa (vB ((s1_1.length:Int) != (s2_2.length:Int))) (ah ?_))))))))))
 rcases aj b with⟨i,b⟩|⟨i,b⟩
 ·refine aA rfl i (ai (aa (vB false) (ah ?_)))
  obtain rfl:=ae b
  exact aB (aM [(vB false)] ⟨rfl,trivial⟩)
 ·refine ay rfl i (av (ak (ai (aa (vL Run.enc s1_1) (bJ Bu rfl wz (aa (vI 0) (ah ?_)))))))
  obtain ⟨v,j,b⟩:=bind_some b
  obtain ⟨o,j⟩:=aS j
  refine bH (λ(g:Unit)=>[]) (λ(g:Unit)=>[]) (λ(a:Nat)=>(λ(g:Unit)=>[(0,(vL Run.enc s1_1)),(1,(vL Run.enc s2_2)),(12,(vI (s1_1.length:Int))),(13,(vI (a:Int)))])) (λk x s=>gQ s2_2 k x s) v s1_1 () j rfl (aG rfl) ?_ ?_
  ·rintro ⟨a,l,g⟩ ⟨f,e⟩
   dsimp only at f e
   cases l with
   | nil =>
    obtain rfl:=ae f
    refine ai (aa (vB (decide ((a:Int)<(s1_1.length:Int)))) (ah ?_))
    refine ak (ay rfl (drop_nil e) (aX ?_))
    exact aU (g) rfl rfl (aG rfl)
   | cons m l =>
    obtain ⟨y,c,f⟩:=bind_some f
    refine ai (aa (vB (decide ((a:Int)<(s1_1.length:Int)))) (ah ?_))
    refine ak (aA rfl (aZ e) (av ?_))
    unfold gQ at c
    refine ak (aK (ai (aa (vI (a:Int)) (aa (vI (a:Int)) (ah (ak (bv (aa (vL Run.enc s1_1) (aa (vI (a:Int)) (dK oJ rfl rfl (bz e) rfl wz (bK qL Ac rfl (.d (.agg (Run.enc m))) rfl wz (aa (vL Run.enc s2_2) (aa (vI (a:Int)) ?_)))))))))))))
    obtain ⟨n,u,c⟩:=bind_some c
    refine dK oJ rfl rfl u rfl wz (bK qL Ac rfl (.d (.agg (Run.enc n))) rfl wz (aJ (vB (!((m.f_from==n.f_from)&&((m.f_to==n.f_to)&&true)))) wz (by kernel_rfl) (ah ?_)))
    rcases aj c with⟨h,c⟩|⟨h,c⟩
    ·refine aA rfl h (ai (aa (vB false) (ah ?_)))
     obtain rfl:=ae c
     obtain rfl:=ae f
     obtain rfl:=ae b
     exact aB (aM [(vB false)] ⟨rfl,trivial⟩)
    ·refine ay rfl h (av (au (dx (bf e o) wz rfl (aa (vI ((a+1:Nat):Int)) (ah ?_)))))
     obtain rfl:=ae c
     exact aV (a+1,l,()) ⟨f,aP e⟩ (ls_ _) rfl (aG rfl)
  ·rintro g p z w q t
   subst p
   refine aN _ q t (ai (aa (vB true) (ah ?_)))
   obtain rfl:=ae b
   exact aB (aM [(vB true)] ⟨rfl,trivial⟩)
theorem Dz {m:(List Rect)} {n:(List Rect)} {r:(List Rect)} (g:qa m n=some r) :
  FnM Tryz.prog 89 [(vL Rect.enc m),(vL Rect.enc n)] [] (vL Rect.enc r) []:=by
 refine FnM.of_wH ⟨Tryz.prog,88,[],[]⟩ rfl Tryz.func89 rfl rfl (lb_ rfl) (by kernel_rfl) ?_
 unfold qa at g
 refine ai (aa .nil (ah (ai (aa .nil (ah (ak (ai (aa (vL Rect.enc m) (aa (vL Rect.enc n) (dW (([m,n]:List (List Rect)).map (eL Rect.enc)) Q8 ez232 rfl rfl rfl rfl rfl wz ?_))))))))))
 obtain ⟨O,Ï,g⟩:=bind_some g
 refine aD (qE Ï) rfl hb133 rfl rfl rfl rfl wz (bJ yP rfl wz (aa (vI 0) (ah (jl (λÖ => ?_)))))
 obtain ⟨Ù,Z,g⟩:=bind_some g
 obtain ⟨Ì,Z⟩:=aS Z
 refine gq (σ:=(List Int)) (N:=Nm) (λp=>(λ(t:List Int) (c:Nm)=>([(0,(vL Rect.enc m)),(1,(vL Rect.enc n)),(5,(gV c 1 t))]:SL_)) p.1 p.2) (λp=>(λ(t:List Int) (c:Nm)=>([(c,gB 1 eI t)]:Hp)) p.1 p.2) (λ(G:Nat)=>(λp=>(λ(t:List Int) (c:Nm)=>([(0,(vL Rect.enc m)),(1,(vL Rect.enc n)),(5,(gV c 1 t)),(19,(vL Rect.enc O)),(20,(vI (O.length:Int))),(21,(vI (G:Int)))]:SL_)) p.1 p.2)) (λk x s=>oZ k x s) Ù O (([]:List Int),Ö) Z rfl (aG rfl) ?_ ?_
 ·rintro ⟨G,Ã,t,c⟩ ⟨J,E⟩
  dsimp only at J E
  cases Ã with
  | nil =>
   obtain rfl:=ae J
   refine ai (aa (vB (decide ((G:Int)<(O.length:Int)))) (ah ?_))
   refine ak (ay rfl (drop_nil E) (aX ?_))
   exact aU (t,c) rfl rfl (aG rfl)
  | cons w Ã =>
   obtain ⟨Ç,P,J⟩:=bind_some J
   refine ai (aa (vB (decide ((G:Int)<(O.length:Int)))) (ah ?_))
   refine ak (aA rfl (aZ E) (av ?_))
   unfold oZ at P
   refine ak (aK (ai (dK BC rfl rfl (bz E) rfl wz (bK rV Ed rfl (.d (.agg (Rect.enc w))) rfl wz (bZ 0 (.inl rfl) z42 rfl wz (λÝ=>gp 0 il ft 1 rV rfl rfl (Rect.v w) rfl wz (ah (au (aa (gV c 1 t) (aH yT rfl 1 rfl wz (aC 0 1 il ft sz3 ag3 rfl rfl (vI w.Y) rfl wz (aH yT rfl 1 rfl wz (aC 0 1 il ft sz3 ag3 rfl rfl (vI w.Y) rfl wz (aH DK rfl 3 rfl wz (aC 0 1 il ft sz3 ag3 rfl rfl (vI w.H) rfl wz (aa (vI (w64 (w.Y+w.H))) (dW (([w.Y,(w64 (w.Y+w.H))]:List Int).map eI) nZ BI rfl rfl rfl rfl rfl wz ?_)))))))))))))))))
   obtain ⟨Å,Ô,P⟩:=bind_some P
   refine lh 0 il ft (i:=0) Sr Sr sz3 z3 rfl (by decide) by3 (by decide) (λ_=>rfl) rfl rfl rfl Ô wz (λÉ=>aa (gV É 1 Å) (ah (au (dx (bf E Ì) wz rfl (aa (vI ((G+1:Nat):Int)) (ah ?_))))))
   obtain rfl:=ae P
   exact aV (G+1,Ã,Å,É) ⟨J,aP E⟩ (ls_ _) rfl (aG rfl)
 ·rintro ⟨t,c⟩ L Ä U z A
  subst L
  refine aN _ z A (ai (aa (gV c 1 t) ?_))
  obtain ⟨T,Í,g⟩:=bind_some g
  obtain ⟨_,M,g⟩:=bind_some g
  replace M:=jQ M
  refine kC 0 [] 0 0 il ft (wE Í) rfl hb134 rfl rfl rfl (by kernel_rfl) rfl (.inl rfl) rfl (by kernel_rfl) (by kernel_rfl) (by kernel_rfl) (by kernel_rfl) rfl (by decide) (by kernel_rfl) jN (tV M) wz ([(c,gB 1 eI T)]:Hp) (by kernel_rfl) (bT (v':=(gV c 1 T)) 36 rfl (fC M.symm) (bT (v':=(gV c 1 T)) 5 rfl (fC M.symm) (ah (ai (aa (gV c 1 T) ?_)))))
  obtain ⟨b,Î,g⟩:=bind_some g
  refine kC 0 [] 0 0 il ft (uA Î) rfl hb135 rfl rfl rfl (by kernel_rfl) rfl (.inl rfl) rfl (by kernel_rfl) (by kernel_rfl) (by kernel_rfl) (by kernel_rfl) rfl (by decide) (by kernel_rfl) wV (λ_=>rfl) wz ([(c,none)]:Hp) (by kernel_rfl) (aa (vL eI b) (ah (ai (aa .nil (ah (ai (aa .nil (ah (ai (aa (vI 0) (ah (ak (ai (aa (vL eI b) (bJ zL rfl wz (aa (vI 0) (ah (Pw Run.enc 9 rfl (jl (λØ => ?_))))))))))))))))))))
  obtain ⟨Ú,À,g⟩:=bind_some g
  obtain ⟨È,À⟩:=aS À
  refine gq (σ:=(List Rect)×(List Run)×Int) (N:=Nm) (λp=>(λ(a:(List Rect)×(List Run)×Int) (h:Nm)=>([(8,(gV h 4 a.1))]:SL_)) p.1 p.2) (λp=>(λ(a:(List Rect)×(List Run)×Int) (h:Nm)=>([(c,none),(h,gB 4 Rect.enc a.1)]:Hp)) p.1 p.2) (λ(e:Nat)=>(λp=>(λ(a:(List Rect)×(List Run)×Int) (h:Nm)=>([(0,(vL Rect.enc m)),(1,(vL Rect.enc n)),(5,(vL eI b)),(8,(gV h 4 a.1)),(9,(vL Run.enc a.2.1)),(10,(vI a.2.2)),(40,(vL eI b)),(41,(vI (b.length:Int))),(42,(vI (e:Int)))]:SL_)) p.1 p.2)) (λk x s=>mf b m n k x s) Ú b ((([]:List Rect),([]:List Run),0),Ø) À rfl (aG rfl) ?_ ?_
  ·rintro ⟨e,R,a,h⟩ ⟨F,y⟩
   dsimp only at F y
   cases R with
   | nil =>
    obtain rfl:=ae F
    refine ai (aa (vB (decide ((e:Int)<(b.length:Int)))) (ah ?_))
    refine ak (ay rfl (drop_nil y) (aX ?_))
    exact aU (a,h) rfl rfl (aG rfl)
   | cons f R =>
    obtain ⟨Ç,l,F⟩:=bind_some F
    refine ai (aa (vB (decide ((e:Int)<(b.length:Int)))) (ah ?_))
    refine ak (aA rfl (aZ y) (av ?_))
    unfold mf at l
    refine ak (aK (ai (aa (vI (e:Int)) (dK nZ rfl rfl (bz y) rfl wz (bK sz3 ag3 rfl (vI f) rfl wz (aa (vI (e:Int)) (aa (vI f) (ah (ai (aa .nil (ah (ak (ai (aa (vI (e:Int)) (aa (vI (w64 ((e:Int)+1))) (aa (vL eI b) (bJ zL rfl wz (aa (vB (decide ((w64 ((e:Int)+1))<(b.length:Int)))) (ah (Pw Run.enc 13 rfl ?_))))))))))))))))))))
    obtain ⟨B,o,l⟩:=bind_some l
    refine aR [(0,(vL Rect.enc m)),(1,(vL Rect.enc n)),(5,(vL eI b)),(8,(gV h 4 a.1)),(9,(vL Run.enc a.2.1)),(10,(vI a.2.2)),(12,(vI f)),(13,(vL Run.enc B)),(40,(vL eI b)),(41,(vI (b.length:Int))),(42,(vI (e:Int)))] [(c,none),(h,gB 4 Rect.enc a.1)] ?_ ?_
    ·rcases aj o with⟨W,o⟩|⟨W,o⟩
     ·refine aA rfl W (au (aa (vL Rect.enc m) (aa (vI f) ?_)))
      obtain ⟨ß,Ð,o⟩:=bind_some o
      refine aD (Ai Ð) rfl hb137 rfl rfl rfl rfl wz (aa (vL Rect.enc n) (aa (vI f) ?_))
      obtain ⟨à,Ñ,o⟩:=bind_some o
      refine aD (Ai Ñ) rfl hb137 rfl rfl rfl rfl wz ?_
      obtain ⟨Ü,Ò,o⟩:=bind_some o
      refine aD (He Ò) rfl hb136 rfl rfl rfl rfl wz (aa (vL Run.enc Ü) (ah ?_))
      obtain rfl:=ae o
      exact cu
     ·refine ay rfl W (av ?_)
      obtain rfl:=ae o
      exact cu
    ·rintro ⟨⟩ _ Ä U z A
     refine aN _ z A (ak (ai (aa (vL Run.enc a.2.1) (aa (vL Run.enc B) ?_))))
     obtain ⟨á,Ó,l⟩:=bind_some l
     refine aD (oW Ó) rfl hb138 rfl rfl rfl rfl wz (ah ?_)
     rcases aj l with⟨X,l⟩|⟨X,l⟩
     ·refine aA rfl X (aX (au (dx (bf y È) wz rfl (aa (vI ((e+1:Nat):Int)) (ah ?_)))))
      obtain rfl:=ae l
      exact aV (e+1,R,(a.1,a.2.1,a.2.2),h) ⟨F,aP y⟩ (ls_ _) rfl (aG rfl)
     ·refine ay rfl X (av (ak (ai (aa (vL Run.enc a.2.1) (bJ Bu rfl wz (aa (vI 0) (ah ?_)))))))
      obtain ⟨Û,Á,l⟩:=bind_some l
      obtain ⟨Ë,Á⟩:=aS Á
      refine gq (σ:=(List Rect)) (N:=Nm) (λp=>(λ(u:List Rect) (q:Nm)=>([(0,(vL Rect.enc m)),(1,(vL Rect.enc n)),(5,(vL eI b)),(8,(gV q 4 u)),(12,(vI f)),(13,(vL Run.enc B)),(40,(vL eI b)),(41,(vI (b.length:Int))),(42,(vI (e:Int)))]:SL_)) p.1 p.2) (λp=>(λ(u:List Rect) (q:Nm)=>([(c,none),(q,gB 4 Rect.enc u)]:Hp)) p.1 p.2) (λ(I:Nat)=>(λp=>(λ(u:List Rect) (q:Nm)=>([(0,(vL Rect.enc m)),(1,(vL Rect.enc n)),(5,(vL eI b)),(8,(gV q 4 u)),(10,(vI a.2.2)),(12,(vI f)),(13,(vL Run.enc B)),(40,(vL eI b)),(41,(vI (b.length:Int))),(42,(vI (e:Int))),(62,(vL Run.enc a.2.1)),(63,(vI (a.2.1.length:Int))),(64,(vI (I:Int)))]:SL_)) p.1 p.2)) (λk x s=>o8 a f k x s) Û a.2.1 (a.1,h) Á rfl (aG rfl) ?_ ?_
      ·rintro ⟨I,Â,u,q⟩ ⟨K,C⟩
       dsimp only at K C
       cases Â with
       | nil =>
        obtain rfl:=ae K
        refine ai (aa (vB (decide ((I:Int)<(a.2.1.length:Int)))) (ah ?_))
        refine ak (ay rfl (drop_nil C) (aX ?_))
        exact aU (u,q) rfl rfl (aG rfl)
       | cons j Â =>
        obtain ⟨Ç,Q,K⟩:=bind_some K
        refine ai (aa (vB (decide ((I:Int)<(a.2.1.length:Int)))) (ah ?_))
        refine ak (aA rfl (aZ C) (av ?_))
        unfold o8 at Q
        refine ak (aK (ai (dK oJ rfl rfl (bz C) rfl wz (bK qL Ac rfl (.d (.agg (Run.enc j))) rfl wz (bZ 0 (.inl rfl) Oc rfl wz (λÞ=>gp 0 il ft 2 qL rfl rfl [(vI j.f_from),(vI j.f_to)] rfl wz (ah (au (aa (gV q 4 u) (aH nT rfl 0 rfl wz (aC 0 2 il ft sz3 ag3 rfl rfl (vI j.f_from) rfl wz (aa (vI a.2.2) (aH uR rfl 1 rfl wz (aC 0 2 il ft sz3 ag3 rfl rfl (vI j.f_to) rfl wz (aH nT rfl 0 rfl wz (aC 0 2 il ft sz3 ag3 rfl rfl (vI j.f_from) rfl wz (aa (vI (w64 (j.f_to-j.f_from))) (aa (vI f) (aa (vI a.2.2) (aa (vI (w64 (f-a.2.2))) (aJ (.d (.agg (Rect.enc (⟨j.f_from,a.2.2,(w64 (j.f_to-j.f_from)),(w64 (f-a.2.2))⟩:Rect)))) wz (by kernel_rfl) (dW (([(⟨j.f_from,a.2.2,(w64 (j.f_to-j.f_from)),(w64 (f-a.2.2))⟩:Rect)]:List Rect).map Rect.enc) BC Tm rfl rfl rfl rfl rfl wz ?_))))))))))))))))))))))
        obtain ⟨Æ,Õ,Q⟩:=bind_some Q
        refine lh 0 il ft (i:=1) Ij Ij rV z42 rfl (by decide) Rk (by decide) (λ_=>rfl) rfl rfl rfl Õ wz (λÊ=>aa (gV Ê 4 Æ) (ah (au (dx (bf C Ë) wz rfl (aa (vI ((I+1:Nat):Int)) (ah ?_))))))
        obtain rfl:=ae Q
        exact aV (I+1,Â,Æ,Ê) ⟨K,aP C⟩ (ls_ _) rfl (aG rfl)
      ·rintro ⟨u,q⟩ L Ä U z A
       subst L
       refine aN _ z A (au (aa (vL Run.enc B) (aa (vI f) (aa (vL Run.enc B) (aa (vI f) (ah (au (dx (bf y È) wz rfl (aa (vI ((e+1:Nat):Int)) (ah ?_))))))))))
       obtain rfl:=ae l
       exact aV (e+1,R,(u,B,f),q) ⟨F,aP y⟩ (ls_ _) rfl (aG rfl)
  ·rintro ⟨a,h⟩ L Ä U z A
   subst L
   refine aN _ z A (ai (aa (gV h 4 a.1) (aa (gV h 4 a.1) (ah (jP 1 rfl (fI 4 1 rfl rfl (fI 8 1 rfl rfl (fI 87 1 rfl rfl ?_))))))))
   obtain rfl:=ae g
   exact aB (aM [(vL Rect.enc a.1)] ⟨rfl,trivial⟩)
theorem IJ {c:(List Rect)} {r:Int} (h:wX c=some r) :
  FnM Tryz.prog 88 [(vL Rect.enc c)] [] (vI r) []:=by
 refine FnM.of_wH ⟨Tryz.prog,21,[],[]⟩ rfl Tryz.func88 rfl rfl (lb_ rfl) (by kernel_rfl) ?_
 unfold wX at h
 refine ai (aa (vI 0) (ah (ai (aa (vI 0) (ah (ak (ai (aa (vL Rect.enc c) (bJ yP rfl wz (aa (vI 0) (ah ?_)))))))))))
 obtain ⟨q,i,h⟩:=bind_some h
 obtain ⟨m,i⟩:=aS i
 refine bH (λ(a:Int)=>[(3,(vI a))]) (λ(a:Int)=>[]) (λ(f:Nat)=>(λ(a:Int)=>[(3,(vI a)),(6,(vL Rect.enc c)),(7,(vI (c.length:Int))),(8,(vI (f:Int)))])) (λk x s=>vE k x s) q c 0 i rfl (aG rfl) ?_ ?_
 ·rintro ⟨f,j,a⟩ ⟨g,e⟩
  dsimp only at g e
  cases j with
  | nil =>
   obtain rfl:=ae g
   refine ai (aa (vB (decide ((f:Int)<(c.length:Int)))) (ah ?_))
   refine ak (ay rfl (drop_nil e) (aX ?_))
   exact aU (a) rfl rfl (aG rfl)
  | cons b j =>
   obtain ⟨u,l,g⟩:=bind_some g
   refine ai (aa (vB (decide ((f:Int)<(c.length:Int)))) (ah ?_))
   refine ak (aA rfl (aZ e) (av ?_))
   unfold vE at l
   refine ak (aK (ai (dK BC rfl rfl (bz e) rfl wz (bK rV Ed rfl (.d (.agg (Rect.enc b))) rfl wz (bZ 0 (.inl rfl) z42 rfl wz (λw=>gp 0 il ft 0 rV rfl rfl (Rect.v b) rfl wz (ah (au (aa (vI a) (aH F6 rfl 2 rfl wz (aC 0 0 il ft sz3 ag3 rfl rfl (vI b.W) rfl wz (aH DK rfl 3 rfl wz (aC 0 0 il ft sz3 ag3 rfl rfl (vI b.H) rfl wz (aa (vI (w64 (b.W*b.H))) (aa (vI (w64 (a+(w64 (b.W*b.H))))) (aa (vI (w64 (a+(w64 (b.W*b.H))))) (ah (au (dx (bf e m) wz rfl (aa (vI ((f+1:Nat):Int)) (ah ?_)))))))))))))))))))))
   obtain rfl:=ae l
   exact aV (f+1,j,(w64 (a+(w64 (b.W*b.H))))) ⟨g,aP e⟩ (ls_ _) rfl (aG rfl)
 ·rintro a n y t o p
  subst n
  refine aN _ o p (ai (aa (vI a) (aa (vI a) (ah ?_))))
  obtain rfl:=ae h
  exact aB (aM [(vI a)] ⟨rfl,trivial⟩)
theorem G9 {c:(List Rect)} {r:Int×Int} (a:tT c=some r) :
  FnM Tryz.prog 58 [(vL Rect.enc c)] [] (.tup [(vI r.1),(vI r.2)]) []:=by
 refine FnM.of_wH ⟨Tryz.prog,13,[],[]⟩ rfl Tryz.func58 rfl rfl (lb_ rfl) (by kernel_rfl) ?_
 unfold tT at a
 refine ai (aa (vI 0) (aa (vI 0) (ah (ak (ai (aa (vL Rect.enc c) ?_))))))
 obtain ⟨b,f,a⟩:=bind_some a
 refine aD (zB f) rfl hb87 rfl rfl rfl rfl wz (aa (vI b) (ah (ai (aa (vI b) (aa (vB (b != 0)) (ah ?_))))))
 rcases aj a with⟨d,a⟩|⟨d,a⟩
 ·refine aA rfl d (ai (aa (vI b) (aa (vI 0) (aa (vI b) (ah ?_)))))
  obtain rfl:=ae a
  exact aB (aM [(vI 0),(vI b)] ⟨rfl,⟨rfl,trivial⟩⟩)
 ·refine ay rfl d (av (ai (aa (vL Rect.enc c) ?_)))
  obtain ⟨i,g,a⟩:=bind_some a
  refine aD (Dz g) rfl hb89 rfl rfl rfl rfl wz ?_
  obtain ⟨e,h,a⟩:=bind_some a
  refine aD (IJ h) rfl hb88 rfl rfl rfl rfl wz (aa (vI e) (aa (vI 0) (ah ?_)))
  obtain rfl:=ae a
  exact aB (aM [(vI e),(vI 0)] ⟨rfl,⟨rfl,trivial⟩⟩)
theorem Kz {a:Int} {r:Bool} (c:DI a=some r) :
  FnM Tryz.prog 200 [(vI a)] [] (vB r) []:=by
 refine FnM.of_wH ⟨Tryz.prog,9,[],[]⟩ rfl Tryz.func200 rfl rfl (lb_ rfl) (by kernel_rfl) ?_
 unfold DI at c
 refine ai (aa (vB false) (ah (ak ?_)))
 obtain ⟨e,b,c⟩:=bind_some c
 refine aR [(2,(vB e))] [] ?_ ?_
 ·refine au (aa (vI a) (aa (vB (decide (a>=0))) ?_))
  rcases aj b with⟨d,b⟩|⟨d,b⟩
  ·refine aF rfl d wz (aJ (vI a) wa rfl (aJ (vB (decide (a<=4000))) wa rfl (aa (vB (decide (a<=4000))) (aa (vB (decide (a<=4000))) (ah ?_)))))
   obtain rfl:=ae b
   exact cu
  ·refine aF rfl d wz (af (af (aa (vB false) (aa (vB false) (ah ?_)))))
   obtain rfl:=ae b
   exact cu
 ·rintro ⟨⟩ _ i h f g
  refine aN _ f g ?_
  obtain rfl:=ae c
  exact aB (aM [(vB e)] ⟨rfl,trivial⟩)
theorem xM {a:(List Int)} {r:Int} (d:lL a=some r) :
  FnM Tryz.prog 170 [(vL eI a)] [] (vI r) []:=by
 refine FnM.of_wH ⟨Tryz.prog,30,[],[]⟩ rfl Tryz.func170 rfl rfl (lb_ rfl) (by kernel_rfl) ?_
 unfold lL at d
 refine ai (aa (vI 0) (ah (ak (ai (aa (vL eI a) (bJ zL rfl wz (aa (vB (decide ((a.length:Int)>100))) (ah ?_))))))))
 rcases aj d with⟨m,d⟩|⟨m,d⟩
 ·refine aA rfl m (ai (aa (vI 2) (ah ?_)))
  obtain rfl:=ae d
  exact aB (aM [(vI 2)] ⟨rfl,trivial⟩)
 ·refine ay rfl m (av (ak (ai (aa (vL eI a) (bJ zL rfl wz (aa (vI 0) (ah ?_)))))))
  obtain ⟨B,o,d⟩:=bind_some d
  obtain ⟨w,o⟩:=aS o
  refine bH (λ(i:Unit)=>[]) (λ(i:Unit)=>[]) (λ(c:Nat)=>(λ(i:Unit)=>[(0,(vL eI a)),(8,(vL eI a)),(9,(vI (a.length:Int))),(10,(vI (c:Int)))])) (λk x s=>l8 a k x s) B a () o rfl (aG rfl) ?_ ?_
  ·rintro ⟨c,t,i⟩ ⟨e,g⟩
   dsimp only at e g
   cases t with
   | nil =>
    obtain rfl:=ae e
    refine ai (aa (vB (decide ((c:Int)<(a.length:Int)))) (ah ?_))
    refine ak (ay rfl (drop_nil g) (aX ?_))
    exact aU (i) rfl rfl (aG rfl)
   | cons h t =>
    obtain ⟨G,b,e⟩:=bind_some e
    refine ai (aa (vB (decide ((c:Int)<(a.length:Int)))) (ah ?_))
    refine ak (aA rfl (aZ g) (av ?_))
    unfold l8 at b
    refine ak (aK (ai (aa (vI (c:Int)) (dK nZ rfl rfl (bz g) rfl wz (bK sz3 ag3 rfl (vI h) rfl wz (aa (vI (c:Int)) (aa (vI h) (ah (ak (ai (aa (vI h) ?_)))))))))))
    obtain ⟨C,z,b⟩:=bind_some b
    refine aD (Kz z) rfl hb200 rfl rfl rfl rfl wz (aa (vB (!C)) (ah ?_))
    rcases aj b with⟨j,b⟩|⟨j,b⟩
    ·refine aA rfl j (ai (aa (vI 1) (ah ?_)))
     obtain rfl:=ae b
     obtain rfl:=ae e
     obtain rfl:=ae d
     exact aB (aM [(vI 1)] ⟨rfl,trivial⟩)
    ·refine ay rfl j (av (ak ?_))
     obtain ⟨F,f,b⟩:=bind_some b
     refine aR [(0,(vL eI a)),(8,(vL eI a)),(9,(vI (a.length:Int))),(10,(vI (c:Int))),(28,(vB F))] [] ?_ ?_
     ·refine au (aa (vI (c:Int)) (aa (vB (decide ((c:Int)>0))) ?_))
      rcases aj f with⟨l,f⟩|⟨l,f⟩
      ·refine aF rfl l wz (aJ (vI h) wa rfl (aJ (vL eI a) wa rfl (aJ (vI (c:Int)) wa rfl (aJ (vI (w64 ((c:Int)-1))) wa rfl ?_))))
       obtain ⟨u,A,f⟩:=bind_some f
       refine dK nZ rfl rfl A rfl wa (bK sz3 ag3 rfl (vI u) rfl wa (aJ (vB (decide (h<=u))) wa rfl (aa (vB (decide (h<=u))) (ah ?_))))
       obtain rfl:=ae f
       exact cu
      ·refine aF rfl l wz (af (af (af (af (af (af (af (aa (vB false) (ah ?_)))))))))
       obtain rfl:=ae f
       exact cu
     ·rintro ⟨⟩ _ E v p q
      refine aN _ p q ?_
      rcases aj b with⟨n,b⟩|⟨n,b⟩
      ·refine aA rfl n (ai (aa (vI 7) (ah ?_)))
       obtain rfl:=ae b
       obtain rfl:=ae e
       obtain rfl:=ae d
       exact aB (aM [(vI 7)] ⟨rfl,trivial⟩)
      ·refine ay rfl n (av (au (dx (bf g w) wz rfl (aa (vI ((c+1:Nat):Int)) (ah ?_)))))
       obtain rfl:=ae b
       exact aV (c+1,t,()) ⟨e,aP g⟩ (ls_ _) rfl (aG rfl)
  ·rintro i y E v p q
   subst y
   refine aN _ p q (ai (aa (vI 0) (ah ?_)))
   obtain rfl:=ae d
   exact aB (aM [(vI 0)] ⟨rfl,trivial⟩)
theorem vT {b:(List ByteArray)} {r:Int} (g:lq b=some r) :
  FnM Tryz.prog 173 [(vL eS b)] [] (vI r) []:=by
 refine FnM.of_wH ⟨Tryz.prog,27,[],[]⟩ rfl Tryz.func173 rfl rfl (lb_ rfl) (by kernel_rfl) ?_
 unfold lq at g
 refine ai (aa (vI 0) (ah (ak (ai (aa (vL eS b) (bJ wY rfl wz (aa (vI 0) (ah ?_))))))))
 obtain ⟨A,n,g⟩:=bind_some g
 obtain ⟨v,n⟩:=aS n
 refine bH (λ(i:Unit)=>[]) (λ(i:Unit)=>[]) (λ(c:Nat)=>(λ(i:Unit)=>[(0,(vL eS b)),(5,(vL eS b)),(6,(vI (b.length:Int))),(7,(vI (c:Int)))])) (λk x s=>kP b k x s) A b () n rfl (aG rfl) ?_ ?_
 ·rintro ⟨c,q,i⟩ ⟨d,f⟩
  dsimp only at d f
  cases q with
  | nil =>
   obtain rfl:=ae d
   refine ai (aa (vB (decide ((c:Int)<(b.length:Int)))) (ah ?_))
   refine ak (ay rfl (drop_nil f) (aX ?_))
   exact aU (i) rfl rfl (aG rfl)
  | cons h q =>
   obtain ⟨F,a,d⟩:=bind_some d
   refine ai (aa (vB (decide ((c:Int)<(b.length:Int)))) (ah ?_))
   refine ak (aA rfl (aZ f) (av ?_))
   unfold kP at a
   refine ak (aK (ai (aa (vI (c:Int)) (dK qo rfl rfl (bz f) rfl wz (bK sz9 ag9 rfl (vS h) rfl wz (aa (vI (c:Int)) (aa (vS h) (ah (ak (ai (aa (vS h) ?_)))))))))))
   obtain ⟨B,y,a⟩:=bind_some a
   refine aD (gX y) rfl DY rfl rfl rfl rfl wz (aa (vB (!B)) (ah ?_))
   rcases aj a with⟨j,a⟩|⟨j,a⟩
   ·refine aA rfl j (ai (aa (vI 5) (ah ?_)))
    obtain rfl:=ae a
    obtain rfl:=ae d
    obtain rfl:=ae g
    exact aB (aM [(vI 5)] ⟨rfl,trivial⟩)
   ·refine ay rfl j (av (ak ?_))
    obtain ⟨E,e,a⟩:=bind_some a
    refine aR [(0,(vL eS b)),(5,(vL eS b)),(6,(vI (b.length:Int))),(7,(vI (c:Int))),(25,(vB E))] [] ?_ ?_
    ·refine au (aa (vI (c:Int)) (aa (vB (decide ((c:Int)>0))) ?_))
     rcases aj e with⟨l,e⟩|⟨l,e⟩
     ·refine aF rfl l wz (aJ (vS h) wa rfl (aJ (vL eS b) wa rfl (aJ (vI (c:Int)) wa rfl (aJ (vI (w64 ((c:Int)-1))) wa rfl ?_))))
      obtain ⟨t,z,e⟩:=bind_some e
      refine dK qo rfl rfl z rfl wa (bK sz9 ag9 rfl (vS t) rfl wa (aJ (vB (sLe h t)) wa rfl (aa (vB (sLe h t)) (ah ?_))))
      obtain rfl:=ae e
      exact cu
     ·refine aF rfl l wz (af (af (af (af (af (af (af (aa (vB false) (ah ?_)))))))))
      obtain rfl:=ae e
      exact cu
    ·rintro ⟨⟩ _ C u o p
     refine aN _ o p ?_
     rcases aj a with⟨m,a⟩|⟨m,a⟩
     ·refine aA rfl m (ai (aa (vI 7) (ah ?_)))
      obtain rfl:=ae a
      obtain rfl:=ae d
      obtain rfl:=ae g
      exact aB (aM [(vI 7)] ⟨rfl,trivial⟩)
     ·refine ay rfl m (av (au (dx (bf f v) wz rfl (aa (vI ((c+1:Nat):Int)) (ah ?_)))))
      obtain rfl:=ae a
      exact aV (c+1,q,()) ⟨d,aP f⟩ (ls_ _) rfl (aG rfl)
 ·rintro i w C u o p
  subst w
  refine aN _ o p (ai (aa (vI 0) (ah ?_)))
  obtain rfl:=ae g
  exact aB (aM [(vI 0)] ⟨rfl,trivial⟩)
theorem zt {b:(List ByteArray)} {r:Int} (a:kQ b=some r) :
  FnM Tryz.prog 171 [(vL eS b)] [] (vI r) []:=by
 refine FnM.of_wH ⟨Tryz.prog,8,[],[]⟩ rfl Tryz.func171 rfl rfl (lb_ rfl) (by kernel_rfl) ?_
 unfold kQ at a
 refine ai (aa (vI 0) (ah (ak (ai (aa (vL eS b) (bJ wY rfl wz (aa (vB (decide ((b.length:Int)>20))) (ah ?_))))))))
 rcases aj a with⟨c,a⟩|⟨c,a⟩
 ·refine aA rfl c (ai (aa (vI 2) (ah ?_)))
  obtain rfl:=ae a
  exact aB (aM [(vI 2)] ⟨rfl,trivial⟩)
 ·refine ay rfl c (av (ai (aa (vL eS b) ?_)))
  obtain ⟨d,e,a⟩:=bind_some a
  refine aD (vT e) rfl hb173 rfl rfl rfl rfl wz (aa (vI d) (ah ?_))
  obtain rfl:=ae a
  exact aB (aM [(vI d)] ⟨rfl,trivial⟩)
theorem zf {c:Entry} {r:Int} (a:kr c=some r) :
  FnM Tryz.prog 139 [(.d (.agg (Entry.enc c)))] [] (vI r) []:=by
 refine FnM.of_wH ⟨Tryz.prog,61,[],[]⟩ rfl Tryz.func139 rfl rfl (lb_ rfl) (by kernel_rfl) ?_
 unfold kr at a
 refine ai (eT 0 (.inl rfl) (Entry.v c) rfl rfl wz (λg=>aa (vI 0) (ah (ak (ak ?_)))))
 obtain ⟨X,f,a⟩:=bind_some a
 refine aR [(1,(.ref g 0 0)),(13,(vB X))] [(g,some (.cells 13 (Entry.v c)))] ?_ ?_
 ·refine au (aH Kv rfl 0 rfl wz (aC 0 0 il ft sz9 ag9 rfl rfl (vS c.Key) rfl wz ?_))
  obtain ⟨T,L,f⟩:=bind_some f
  refine aD (gX L) rfl DY rfl rfl rfl rfl wz (aa (vB (!T)) ?_)
  rcases aj f with⟨w,f⟩|⟨w,f⟩
  ·refine aF rfl w wz (af (af (af (af (aa (vB true) (ah ?_))))))
   obtain rfl:=ae f
   exact cu
  ·refine aF rfl w wz (aH pl114_1 rfl 1 rfl wa (aC 0 0 il ft sz9 ag9 rfl rfl (vS c.Item) rfl wa ?_))
   obtain ⟨z,M,f⟩:=bind_some f
   refine aD (gX M) rfl DY rfl rfl rfl rfl wa (aJ (vB (!z)) wa rfl (aa (vB (!z)) (ah ?_)))
   obtain rfl:=ae f
   exact cu
 ·rintro ⟨⟩ _ A x i j
  refine aN _ i j ?_
  rcases aj a with⟨k,a⟩|⟨k,a⟩
  ·refine aA rfl k (ai (aa (vI 5) (ah ?_)))
   obtain rfl:=ae a
   exact aB (aM [(vI 5)] ⟨rfl,trivial⟩)
  ·refine ay rfl k (av (ak (ak ?_)))
   obtain ⟨U,b,a⟩:=bind_some a
   refine aR [(1,(.ref g 0 0)),(38,(vB U))] [(g,some (.cells 13 (Entry.v c)))] ?_ ?_
   ·refine au (aH pl114_2 rfl 2 rfl wz (aC 0 0 il ft sz3 ag3 rfl rfl (vI c.Version) rfl wz ?_))
    obtain ⟨Y,B,b⟩:=bind_some b
    refine aD (bI B) rfl uO rfl rfl rfl rfl wz ?_
    rcases aj b with⟨l,b⟩|⟨l,b⟩
    ·refine aF rfl l wz (af (af (af (af (af (aa (vB true) (aa (vB true) (af (af (af (aa (vB true) (aa (vB true) (af (af (af (aa (vB true) (aa (vB true) (af (af (af (aa (vB true) (ah ?_))))))))))))))))))))))
     obtain rfl:=ae b
     exact cu
    ·refine aF rfl l wz (aH FV rfl 3 rfl wa (aC 0 0 il ft sz3 ag3 rfl rfl (vI c.First) rfl wa (aH FX rfl 4 rfl wa (aC 0 0 il ft sz3 ag3 rfl rfl (vI c.Last) rfl wa ?_))))
     obtain ⟨N,C,b⟩:=bind_some b
     refine aD (bI C) rfl uO rfl rfl rfl rfl wa (aa (vB N) ?_)
     rcases aj b with⟨m,b⟩|⟨m,b⟩
     ·refine aF rfl m wz (af (af (af (aa (vB true) (aa (vB true) (af (af (af (aa (vB true) (aa (vB true) (af (af (af (aa (vB true) (ah ?_)))))))))))))))
      obtain rfl:=ae b
      exact cu
     ·refine aF rfl m wz (aH FX rfl 4 rfl wa (aC 0 0 il ft sz3 ag3 rfl rfl (vI c.Last) rfl wa (aJ (vB (decide (c.Last>4000))) wa rfl (aa (vB (decide (c.Last>4000))) ?_))))
      rcases aj b with⟨n,b⟩|⟨n,b⟩
      ·refine aF rfl n wz (af (af (af (aa (vB true) (aa (vB true) (af (af (af (aa (vB true) (ah ?_))))))))))
       obtain rfl:=ae b
       exact cu
      ·refine aF rfl n wz (aH Pd rfl 5 rfl wa (aC 0 0 il ft sz3 ag3 rfl rfl (vI c.Every) rfl wa ?_))
       obtain ⟨O,E,b⟩:=bind_some b
       refine aD (bI E) rfl uO rfl rfl rfl rfl wa (aa (vB O) ?_)
       rcases aj b with⟨o,b⟩|⟨o,b⟩
       ·refine aF rfl o wz (af (af (af (aa (vB true) (ah ?_)))))
        obtain rfl:=ae b
        exact cu
       ·refine aF rfl o wz (aH O4 rfl 6 rfl wa (aC 0 0 il ft sz3 ag3 rfl rfl (vI c.Days) rfl wa ?_))
        obtain ⟨P,F,b⟩:=bind_some b
        refine aD (bI F) rfl uO rfl rfl rfl rfl wa (aa (vB P) (ah ?_))
        obtain rfl:=ae b
        exact cu
   ·rintro ⟨⟩ _ A x i j
    refine aN _ i j ?_
    rcases aj a with⟨p,a⟩|⟨p,a⟩
    ·refine aA rfl p (ai (aa (vI 1) (ah ?_)))
     obtain rfl:=ae a
     exact aB (aM [(vI 1)] ⟨rfl,trivial⟩)
    ·refine ay rfl p (av (ak (ai (aH OX rfl 7 rfl wz (aC 0 0 il ft P5 PP rfl rfl (vL eI c.Except) rfl wz ?_)))))
     obtain ⟨h,G,a⟩:=bind_some a
     refine aD (xM G) rfl hb170 rfl rfl rfl rfl wz (aa (vI h) (ah (ai (aa (vI h) (aa (vB (h != 0)) (ah ?_))))))
     rcases aj a with⟨q,a⟩|⟨q,a⟩
     ·refine aA rfl q (ai (aa (vI h) (aa (vI h) (ah ?_))))
      obtain rfl:=ae a
      exact aB (aM [(vI h)] ⟨rfl,trivial⟩)
     ·refine ay rfl q (av (ak (ak ?_)))
      obtain ⟨W,e,a⟩:=bind_some a
      refine aR [(1,(.ref g 0 0)),(57,(vB W))] [(g,some (.cells 13 (Entry.v c)))] ?_ ?_
      ·refine au (aH Kr rfl 8 rfl wz (aC 0 0 il ft sz3 ag3 rfl rfl (vI c.From) rfl wz ?_))
       obtain ⟨Z,H,e⟩:=bind_some e
       refine aD (bI H) rfl uO rfl rfl rfl rfl wz ?_
       rcases aj e with⟨s,e⟩|⟨s,e⟩
       ·refine aF rfl s wz (af (af (af (aa (vB true) (aa (vB true) (af (af (af (aa (vB true) (ah ?_))))))))))
        obtain rfl:=ae e
        exact cu
       ·refine aF rfl s wz (aH O1 rfl 9 rfl wa (aC 0 0 il ft sz3 ag3 rfl rfl (vI c.To) rfl wa ?_))
        obtain ⟨Q,I,e⟩:=bind_some e
        refine aD (bI I) rfl uO rfl rfl rfl rfl wa (aa (vB Q) ?_)
        rcases aj e with⟨t,e⟩|⟨t,e⟩
        ·refine aF rfl t wz (af (af (af (aa (vB true) (ah ?_)))))
         obtain rfl:=ae e
         exact cu
        ·refine aF rfl t wz (aH SF rfl 10 rfl wa (aC 0 0 il ft sz3 ag3 rfl rfl (vI c.Prio) rfl wa ?_))
         obtain ⟨R,J,e⟩:=bind_some e
         refine aD (bI J) rfl uO rfl rfl rfl rfl wa (aa (vB R) (ah ?_))
         obtain rfl:=ae e
         exact cu
      ·rintro ⟨⟩ _ A x i j
       refine aN _ i j ?_
       rcases aj a with⟨u,a⟩|⟨u,a⟩
       ·refine aA rfl u (ai (aa (vI 1) (ah ?_)))
        obtain rfl:=ae a
        exact aB (aM [(vI 1)] ⟨rfl,trivial⟩)
       ·refine ay rfl u (av (ai (aH Tk rfl 11 rfl wz (aC 0 0 il ft zV Cy rfl rfl (vL eS c.Tags) rfl wz ?_))))
        obtain ⟨y,K,a⟩:=bind_some a
        refine aD (zt K) rfl hb171 rfl rfl rfl rfl wz (aa (vI y) (ah ?_))
        obtain rfl:=ae a
        exact aB (aM [(vI y)] ⟨rfl,trivial⟩)
theorem xy {a:(List Entry)} {r:Int} (e:jy a=some r) :
  FnM Tryz.prog 90 [(vL Entry.enc a)] [] (vI r) []:=by
 refine FnM.of_wH ⟨Tryz.prog,35,[],[]⟩ rfl Tryz.func90 rfl rfl (lb_ rfl) (by kernel_rfl) ?_
 unfold jy at e
 refine ai (aa (vI 0) (ah (ak (ai (aa (vL Entry.enc a) (bJ un154 rfl wz (aa (vB (decide ((a.length:Int)>200))) (ah ?_))))))))
 rcases aj e with⟨p,e⟩|⟨p,e⟩
 ·refine aA rfl p (ai (aa (vI 2) (ah ?_)))
  obtain rfl:=ae e
  exact aB (aM [(vI 2)] ⟨rfl,trivial⟩)
 ·refine ay rfl p (av (ak (ai (aa (vL Entry.enc a) (bJ un154 rfl wz (aa (vI 0) (ah ?_)))))))
  obtain ⟨G,t,e⟩:=bind_some e
  obtain ⟨A,t⟩:=aS t
  refine bH (λ(l:Unit)=>[]) (λ(l:Unit)=>[]) (λ(c:Nat)=>(λ(l:Unit)=>[(0,(vL Entry.enc a)),(9,(vL Entry.enc a)),(10,(vI (a.length:Int))),(11,(vI (c:Int)))])) (λk x s=>iH a k x s) G a () t rfl (aG rfl) ?_ ?_
  ·rintro ⟨c,y,l⟩ ⟨f,i⟩
   dsimp only at f i
   cases y with
   | nil =>
    obtain rfl:=ae f
    refine ai (aa (vB (decide ((c:Int)<(a.length:Int)))) (ah ?_))
    refine ak (ay rfl (drop_nil i) (aX ?_))
    exact aU (l) rfl rfl (aG rfl)
   | cons h y =>
    obtain ⟨J,b,f⟩:=bind_some f
    refine ai (aa (vB (decide ((c:Int)<(a.length:Int)))) (ah ?_))
    refine ak (aA rfl (aZ i) (av ?_))
    unfold iH at b
    refine ak (aK (ai (aa (vI (c:Int)) (dK RD rfl rfl (bz i) rfl wz (bK HV Jd rfl (.d (.agg (Entry.enc h))) rfl wz (bZ 0 (.inl rfl) z114 rfl wz (λF=>aa (vI (c:Int)) (gp 0 il ft 0 HV rfl rfl (Entry.v h) rfl wz (ah (ak (ai (aC 0 0 il ft HV Jd rfl rfl (.d (.agg (Entry.enc h))) rfl wz ?_))))))))))))
    obtain ⟨j,C,b⟩:=bind_some b
    refine aD (zf C) rfl hb139 rfl rfl rfl rfl wz (aa (vI j) (ah (ai (aa (vI j) (aa (vB (j != 0)) (ah ?_))))))
    rcases aj b with⟨n,b⟩|⟨n,b⟩
    ·refine aA rfl n (ai (aa (vI j) (aa (vI j) (ah ?_))))
     obtain rfl:=ae b
     obtain rfl:=ae f
     obtain rfl:=ae e
     exact aB (aM [(vI j)] ⟨rfl,trivial⟩)
    ·refine ay rfl n (av (ak ?_))
     obtain ⟨I,g,b⟩:=bind_some b
     refine aR [(0,(vL Entry.enc a)),(9,(vL Entry.enc a)),(10,(vI (a.length:Int))),(11,(vI (c:Int))),(33,(vB I))] [(F,some (.cells 13 (Entry.v h)))] ?_ ?_
     ·refine bv (aa (vI (c:Int)) (aa (vB (decide ((c:Int)>0))) ?_))
      rcases aj g with⟨o,g⟩|⟨o,g⟩
      ·refine aF rfl o wz (aH Kv rfl 0 rfl wa (aC 4 0 (.inr (by kernel_rfl)) (λ_ _ ag=>trivial) sz9 ag9 rfl rfl (vS h.Key) rfl wa (aJ (vL Entry.enc a) wa rfl (aJ (vI (c:Int)) wa rfl (aJ (vI (w64 ((c:Int)-1))) wa rfl ?_)))))
       obtain ⟨m,E,g⟩:=bind_some g
       refine dK RD rfl rfl E rfl wa (uJ Kv rfl (Entry.enc m) rfl rfl wa (bK sz9 ag9 rfl (vS m.Key) rfl wa (aJ (vB (sLe h.Key m.Key)) wa rfl (aa (vB (sLe h.Key m.Key)) (ah ?_)))))
       obtain rfl:=ae g
       exact cu
      ·refine aF rfl o wz (af (af (af (af (af (af (af (af (af (aa (vB false) (ah ?_)))))))))))
       obtain rfl:=ae g
       exact cu
     ·rintro ⟨⟩ _ H z u w
      refine aN _ u w ?_
      rcases aj b with⟨q,b⟩|⟨q,b⟩
      ·refine aA rfl q (ai (aa (vI 7) (ah ?_)))
       obtain rfl:=ae b
       obtain rfl:=ae f
       obtain rfl:=ae e
       exact aB (aM [(vI 7)] ⟨rfl,trivial⟩)
      ·refine ay rfl q (av (au (dx (bf i A) wz rfl (aa (vI ((c+1:Nat):Int)) (ah ?_)))))
       obtain rfl:=ae b
       exact aV (c+1,y,()) ⟨f,aP i⟩ (ls_ _) rfl (aG rfl)
  ·rintro l B H z u w
   subst B
   refine aN _ u w (ai (aa (vI 0) (ah ?_)))
   obtain rfl:=ae e
   exact aB (aM [(vI 0)] ⟨rfl,trivial⟩)
theorem xD {a:Window} {r:Int} (b:lu a=some r) :
  FnM Tryz.prog 91 [(.d (.agg (Window.enc a)))] [] (vI r) []:=by
 refine FnM.of_wH ⟨Tryz.prog,19,[],[]⟩ rfl Tryz.func91 rfl rfl (lb_ rfl) (by kernel_rfl) ?_
 unfold lu at b
 refine ai (eT 0 (.inl rfl) [(vI a.From),(vI a.To)] rfl rfl wz (λh=>aa (vI 0) (ah (ak (ak ?_)))))
 obtain ⟨l,c,b⟩:=bind_some b
 refine aR [(1,(.ref h 0 0)),(12,(vB l))] [(h,some (.cells 2 [(vI a.From),(vI a.To)]))] ?_ ?_
 ·refine au (aH oU rfl 0 rfl wz (aC 0 0 il ft sz3 ag3 rfl rfl (vI a.From) rfl wz (aH pg rfl 1 rfl wz (aC 0 0 il ft sz3 ag3 rfl rfl (vI a.To) rfl wz ?_))))
  obtain ⟨n,k,c⟩:=bind_some c
  refine aD (bI k) rfl uO rfl rfl rfl rfl wz ?_
  rcases aj c with⟨e,c⟩|⟨e,c⟩
  ·refine aF rfl e wz (af (af (af (aa (vB true) (ah ?_)))))
   obtain rfl:=ae c
   exact cu
  ·refine aF rfl e wz (aH pg rfl 1 rfl wa (aC 0 0 il ft sz3 ag3 rfl rfl (vI a.To) rfl wa (aJ (vB (decide (a.To>345686400000))) wa rfl (aa (vB (decide (a.To>345686400000))) (ah ?_)))))
   obtain rfl:=ae c
   exact cu
 ·rintro ⟨⟩ _ o m i j
  refine aN _ i j ?_
  rcases aj b with⟨f,b⟩|⟨f,b⟩
  ·refine aA rfl f (ai (aa (vI 1) (ah ?_)))
   obtain rfl:=ae b
   exact aB (aM [(vI 1)] ⟨rfl,trivial⟩)
  ·refine ay rfl f (av (ak (ai (aH pg rfl 1 rfl wz (aC 0 0 il ft sz3 ag3 rfl rfl (vI a.To) rfl wz (aH oU rfl 0 rfl wz (aC 0 0 il ft sz3 ag3 rfl rfl (vI a.From) rfl wz (aa (vI (w64 (a.To-a.From))) (aa (vB (decide ((w64 (a.To-a.From))>34560000000))) (ah ?_))))))))))
   rcases aj b with⟨g,b⟩|⟨g,b⟩
   ·refine aA rfl g (ai (aa (vI 2) (ah ?_)))
    obtain rfl:=ae b
    exact aB (aM [(vI 2)] ⟨rfl,trivial⟩)
   ·refine ay rfl g (av (ai (aa (vI 0) (ah ?_))))
    obtain rfl:=ae b
    exact aB (aM [(vI 0)] ⟨rfl,trivial⟩)
theorem Fx {b:Int} {c:Int} {r:Bool} (d:cmp_Less_int b c=some r) :
  FnM Tryz.prog 196 [(vI b),(vI c)] [] (vB r) []:=by
 refine FnM.of_wH ⟨Tryz.prog,17,[],[]⟩ rfl Tryz.func196 rfl rfl (lb_ rfl) (by kernel_rfl) ?_
 unfold cmp_Less_int at d
 refine ai (aa (vB false) (ah (ak ?_)))
 obtain ⟨h,a,d⟩:=bind_some d
 refine aR [(4,(vB h))] [] ?_ ?_
 ·refine au (aa (vI b) ?_)
  obtain ⟨n,k,a⟩:=bind_some a
  refine aD (pE k) rfl hb77 rfl rfl rfl rfl wz ?_
  rcases aj a with⟨f,a⟩|⟨f,a⟩
  ·refine aF rfl f wz (aJ (vI c) wa rfl ?_)
   obtain ⟨g,l,a⟩:=bind_some a
   refine aD (pE l) rfl hb77 rfl rfl rfl rfl wa (aJ (vB (!g)) wa rfl (aa (vB (!g)) ?_))
   rcases aj a with⟨e,a⟩|⟨e,a⟩
   ·refine aF rfl e wz (af (af (af (aa (vB true) (aa (vB true) (ah ?_))))))
    obtain rfl:=ae a
    exact cu
   ·refine aF rfl e wz (aJ (vI b) wa rfl (aJ (vI c) wa rfl (aJ (vB (decide (b<c))) wa rfl (aa (vB (decide (b<c))) (aa (vB (decide (b<c))) (ah ?_))))))
    obtain rfl:=ae a
    exact cu
  ·refine aF rfl f wz (af (af (af (aa (vB false) (aa (vB false) (aJ (vI b) wa rfl (aJ (vI c) wa rfl (aJ (vB (decide (b<c))) wa rfl (aa (vB (decide (b<c))) (aa (vB (decide (b<c))) (ah ?_)))))))))))
   obtain rfl:=ae a
   exact cu
 ·rintro ⟨⟩ _ o m i j
  refine aN _ i j ?_
  obtain rfl:=ae d
  exact aB (aM [(vB h)] ⟨rfl,trivial⟩)
theorem uN {a:Int} {r:Bool} (b:kI a=some r) :
  FnM Tryz.prog 201 [(vI a)] [] (vB r) []:=by
 refine FnM.of_wH ⟨Tryz.prog,6,[],[]⟩ rfl Tryz.func201 rfl rfl (lb_ rfl) (by kernel_rfl) ?_
 unfold kI at b
 refine ai (aa (vB false) (ah (ai (aa (vI a) (aa (vI a) (aa (vB (a != a)) (aa (vB (a != a)) (ah ?_))))))))
 obtain rfl:=ae b
 exact aB (aM [(vB (a != a))] ⟨rfl,trivial⟩)
theorem sP {c:(List Int)} {f:Int} {r:Int×Bool} (h:gm c f=some r) :
  FnM Tryz.prog 172 [(vL eI c),(vI f)] [] (.tup [(vI r.1),(vB r.2)]) []:=by
 refine FnM.of_wH ⟨Tryz.prog,54,[],[]⟩ rfl Tryz.func172 rfl rfl (lb_ rfl) (by kernel_rfl) ?_
 unfold gm at h
 refine ai (aa (vI 0) (aa (vB false) (ah (ai (aa (vL eI c) (bJ zL rfl wz (aa (vI (c.length:Int)) (ah (ai (aa (vI (c.length:Int)) (aa (vI 0) (aa (vI (c.length:Int)) (ah (ak ?_))))))))))))))
 obtain ⟨H,p,h⟩:=bind_some h
 obtain ⟨G,p⟩:=dF p
 refine eU (λ(a:Int×Int)=>[(0,(vL eI c)),(1,(vI f)),(6,(vI (c.length:Int))),(7,(vI a.1))]) (λ(a:Int×Int)=>[]) (λ(i:Nat)=>(λ(a:Int×Int)=>[(0,(vL eI c)),(1,(vI f)),(6,(vI (c.length:Int))),(7,(vI a.1)),(8,(vI a.2))])) (λs=>gZ c f s) H G (0,(c.length:Int)) p rfl (aG rfl) ?_ ?_
 ·rintro ⟨i,a⟩ g
  dsimp only at g
  cases i with
  | zero=>cases g
  | succ i =>
   obtain ⟨L,d,g⟩:=bind_some g
   unfold gZ at d
   refine ak (ai (aa (vI a.1) (aa (vI a.2) (aa (vB (decide (a.1<a.2))) (ah ?_)))))
   rcases aj d with⟨k,d⟩|⟨k,d⟩
   ·refine aA rfl k (av (aK (ai (aa (vI a.1) (aa (vI a.2) (aa (vI (w64 (a.1+a.2))) (zH un3 JO rfl wz ?_)))))))
    obtain ⟨e,F,d⟩:=bind_some d
    refine OA rfl rfl F wz (zH JO un3 rfl wz (aa (vI (w64 e)) (ah (ai (aa (vL eI c) (aa (vI (w64 e)) ?_))))))
    obtain ⟨J,B,d⟩:=bind_some d
    refine dK nZ rfl rfl B rfl wz (bK sz3 ag3 rfl (vI J) rfl wz (aa (vI f) ?_))
    obtain ⟨M,y,d⟩:=bind_some d
    refine aD (Fx y) rfl hb196 rfl rfl rfl rfl wz (ah ?_)
    rcases aj d with⟨l,d⟩|⟨l,d⟩
    ·refine aA rfl l (au (aa (vI (w64 e)) (aa (vI (w64 ((w64 e)+1))) (aa (vI (w64 ((w64 e)+1))) (ah ?_)))))
     obtain rfl:=ae d
     exact aV (i,((w64 ((w64 e)+1)),a.2)) g (ls_ _) rfl (aG rfl)
    ·refine ay rfl l (au (aa (vI (w64 e)) (aa (vI (w64 e)) (ah ?_))))
     obtain rfl:=ae d
     exact aV (i,(a.1,(w64 e))) g (ls_ _) rfl (aG rfl)
   ·refine ay rfl k (aX ?_)
    obtain rfl:=ae d
    obtain rfl:=ae g
    exact aU ((a.1,a.2)) rfl rfl (aG rfl)
 ·rintro a x I w q t
  subst x
  refine aN _ q t (ak ?_)
  obtain ⟨u,b,h⟩:=bind_some h
  refine aR [(4,(vI a.1)),(5,(vB u))] [] ?_ ?_
  ·refine au (aa (vI a.1) (aa (vI a.1) (aa (vI (c.length:Int)) (aa (vB (decide (a.1<(c.length:Int)))) ?_))))
   rcases aj b with⟨m,b⟩|⟨m,b⟩
   ·refine aF rfl m wz (aJ (vL eI c) wa rfl (aJ (vI a.1) wa rfl ?_))
    obtain ⟨v,C,b⟩:=bind_some b
    refine dK nZ rfl rfl C rfl wa (bK sz3 ag3 rfl (vI v) rfl wa (aJ (vI f) wa rfl (aJ (vB (v==f)) wa rfl ?_)))
    rcases aj b with⟨n,b⟩|⟨n,b⟩
    ·refine aF rfl n wa (af (af (af (af (af (af (dI (wn rfl rfl) (dI (wn rfl rfl) (af (aJ (vB true) wa rfl (aa (vB true) (aa (vI a.1) (aa (vB true) (ah ?_))))))))))))))
     obtain rfl:=ae b
     exact cu
    ·refine aF rfl n wa (aJ (vL eI c) wa rfl (aJ (vI a.1) wa rfl ?_))
     obtain ⟨K,E,b⟩:=bind_some b
     refine dK nZ rfl rfl E rfl wa (bK sz3 ag3 rfl (vI K) rfl wa ?_)
     obtain ⟨N,z,b⟩:=bind_some b
     refine aD (uN z) rfl hb201 rfl rfl rfl rfl wa ?_
     rcases aj b with⟨o,b⟩|⟨o,b⟩
     ·refine aF rfl o wa (aJ (vI f) wa rfl ?_)
      obtain ⟨j,A,b⟩:=bind_some b
      refine aD (uN A) rfl hb201 rfl rfl rfl rfl wa (aJ (vB j) wa rfl (aJ (vB j) wa rfl (aa (vB j) (aa (vI a.1) (aa (vB j) (ah ?_))))))
      obtain rfl:=ae b
      exact cu
     ·refine aF rfl o wa (af (af (aJ (vB false) wa rfl (aJ (vB false) wa rfl (aa (vB false) (aa (vI a.1) (aa (vB false) (ah ?_))))))))
      obtain rfl:=ae b
      exact cu
   ·refine aF rfl m wz (af (af (af (af (af (af (af (dI (wn rfl rfl) (dI (wn rfl rfl) (dI (wn rfl rfl) (dI (wn rfl rfl) (dI (wn rfl rfl) (dI (wn rfl rfl) (dI (wn rfl rfl) (dI (wn rfl rfl) (dI (wn rfl rfl) (af (aa (vB false) (aa (vI a.1) (aa (vB false) (ah ?_)))))))))))))))))))))
    obtain rfl:=ae b
    exact cu
  ·rintro ⟨⟩ _ I w q t
   refine aN _ q t ?_
   obtain rfl:=ae h
   exact aB (aM [(vI a.1),(vB u)] ⟨rfl,⟨rfl,trivial⟩⟩)
theorem CR {b:Entry} {f:Int} {r:Bool} (c:oM b f=some r) :
  FnM Tryz.prog 140 [(.d (.agg (Entry.enc b))),(vI f)] [] (vB r) []:=by
 refine FnM.of_wH ⟨Tryz.prog,41,[],[]⟩ rfl Tryz.func140 rfl rfl (lb_ rfl) (by kernel_rfl) ?_
 unfold oM at c
 refine ai (eT 0 (.inl rfl) (Entry.v b) rfl rfl wz (λk=>aa (vB false) (ah (ak (ak ?_)))))
 obtain ⟨t,a,c⟩:=bind_some c
 refine aR [(1,(vI f)),(2,(.ref k 0 0)),(31,(vB t))] [(k,some (.cells 13 (Entry.v b)))] ?_ ?_
 ·refine bv (aa (vI f) (aH FV rfl 3 rfl wz (aC 2 0 (.inr (by kernel_rfl)) (λ_ _ ag=>trivial) sz3 ag3 rfl rfl (vI b.First) rfl wz (aH FX rfl 4 rfl wz (aC 4 0 (.inr (by kernel_rfl)) (λ_ _ ag=>⟨.inl ⟨rfl,rfl⟩,trivial⟩) sz3 ag3 rfl rfl (vI b.Last) rfl wz ?_)))))
  obtain ⟨w,p,a⟩:=bind_some a
  refine aD (bI p) rfl uO rfl rfl rfl rfl wz ?_
  rcases aj a with⟨i,a⟩|⟨i,a⟩
  ·refine aF rfl i wz (af (af (af (af (af (af (af (af (aa (vB true) (aa (vB true) (af (af (af (af (af (af (af (aa (vB true) (ah ?_)))))))))))))))))))
   obtain rfl:=ae a
   exact cu
  ·refine aF rfl i wz (aJ (vI f) wa rfl (aH FV rfl 3 rfl wa (aC 9 0 (.inr (by kernel_rfl)) (λ_ _ ag=>⟨.inl ⟨rfl,rfl⟩,⟨.inl ⟨rfl,rfl⟩,trivial⟩⟩) sz3 ag3 rfl rfl (vI b.First) rfl wa (aJ (vI (w64 (f-b.First))) wa rfl (aH Pd rfl 5 rfl wa (aC 12 0 (.inr (by kernel_rfl)) (λ_ _ ag=>⟨.inl ⟨rfl,rfl⟩,⟨.inl ⟨rfl,rfl⟩,⟨.inl ⟨rfl,rfl⟩,trivial⟩⟩⟩) sz3 ag3 rfl rfl (vI b.Every) rfl wa ?_))))))
   obtain ⟨l,q,a⟩:=bind_some a
   refine SQ rfl rfl q wa (aJ (vB (l != 0)) wa rfl (aa (vB (l != 0)) ?_))
   rcases aj a with⟨g,a⟩|⟨g,a⟩
   ·refine aF rfl g wz (af (af (af (af (af (af (af (aa (vB true) (ah ?_)))))))))
    obtain rfl:=ae a
    exact cu
   ·refine aF rfl g wz (aH O4 rfl 6 rfl wa (aC 18 0 (.inr (by kernel_rfl)) (λ_ _ ag=>⟨.inl ⟨rfl,rfl⟩,⟨.inl ⟨rfl,rfl⟩,⟨.inl ⟨rfl,rfl⟩,⟨.inl ⟨rfl,rfl⟩,trivial⟩⟩⟩⟩) sz3 ag3 rfl rfl (vI b.Days) rfl wa (aJ (vI f) wa rfl (aJ (vI (f.tmod 7)) wa rfl ?_))))
    obtain ⟨j,s,a⟩:=bind_some a
    refine h_shl rfl rfl s wa (aJ (vI (Rp .i64 b.Days j)) wa rfl (aJ (vB ((Rp .i64 b.Days j)==0)) wa rfl (aa (vB ((Rp .i64 b.Days j)==0)) (ah ?_))))
    obtain rfl:=ae a
    exact cu
 ·rintro ⟨⟩ _ x u m n
  refine aN _ m n ?_
  rcases aj c with⟨h,c⟩|⟨h,c⟩
  ·refine aA rfl h (ai (aa (vB false) (ah ?_)))
   obtain rfl:=ae c
   exact aB (aM [(vB false)] ⟨rfl,trivial⟩)
  ·refine ay rfl h (av (ai (aH OX rfl 7 rfl wz (aC 0 0 il ft P5 PP rfl rfl (vL eI b.Except) rfl wz (aa (vI f) ?_)))))
   obtain ⟨e,o,c⟩:=bind_some c
   refine aD (sP o) rfl hb172 rfl rfl rfl rfl wz (aa (.tup [(vI e.1),(vB e.2)]) (aa (vI e.1) (aa (vB e.2) (aa (vI e.1) (aa (vB e.2) (ah (ai (aa (vB e.2) (aa (vB (!e.2)) (aa (vB (!e.2)) (ah ?_)))))))))))
   obtain rfl:=ae c
   exact aB (aM [(vB (!e.2))] ⟨rfl,trivial⟩)
theorem Ce {a:Entry} {c:Int} {b:Int} {r:Window} (g:qj a c b=some r) :
  FnM Tryz.prog 141 [(.d (.agg (Entry.enc a))),(vI c),(vI b)] [] (.d (.agg (Window.enc r))) []:=by
 refine FnM.of_wH ⟨Tryz.prog,32,[],[]⟩ rfl Tryz.func141 rfl rfl (lb_ rfl) (by kernel_rfl) ?_
 unfold qj at g
 refine ai (eT 0 (.inl rfl) (Entry.v a) rfl rfl wz (λi=>bZ 0 (.inl rfl) z116 rfl wz (λj=>ah (ai (aH O1 rfl 9 rfl wz (aC 0 0 il ft sz3 ag3 rfl rfl (vI a.To) rfl wz (aH Kr rfl 8 rfl wz (aC 0 0 il ft sz3 ag3 rfl rfl (vI a.From) rfl wz (aa (vI (w64 (a.To-a.From))) (aa (vI (w64 (a.To-a.From))) (ah (ak (ai (aa (vI (w64 (a.To-a.From))) (aa (vB (decide ((w64 (a.To-a.From))<=0))) (ah ?_))))))))))))))))
 obtain ⟨e,f,g⟩:=bind_some g
 refine aR [(1,(vI c)),(2,(vI b)),(3,(.ref i 0 0)),(6,(.ref j 0 0)),(7,(vI e))] [(i,some (.cells 13 (Entry.v a))),(j,some (.cells 2 [(vI 0),(vI 0)]))] ?_ ?_
 ·rcases aj f with⟨h,f⟩|⟨h,f⟩
  ·refine aA rfl h (au (aa (vI (w64 (a.To-a.From))) (aa (vI (w64 ((w64 (a.To-a.From))+1440))) (aa (vI (w64 ((w64 (a.To-a.From))+1440))) (ah ?_)))))
   obtain rfl:=ae f
   exact cu
  ·refine ay rfl h (av ?_)
   obtain rfl:=ae f
   exact cu
 ·rintro ⟨⟩ _ n m k l
  refine aN _ k l (ai (aa (vI b) (aa (vI (w64 (b*1440))) (aH Kr rfl 8 rfl wz (aC 0 0 il ft sz3 ag3 rfl rfl (vI a.From) rfl wz (aa (vI (w64 ((w64 (b*1440))+a.From))) (aa (vI c) (aa (vI (w64 ((w64 ((w64 (b*1440))+a.From))-c))) (aa (vI (w64 ((w64 ((w64 ((w64 (b*1440))+a.From))-c))*60000))) (aa (vI (w64 ((w64 ((w64 ((w64 (b*1440))+a.From))-c))*60000))) (ah (ai (aa (vI (w64 ((w64 ((w64 ((w64 (b*1440))+a.From))-c))*60000))) (aa (vI (w64 ((w64 ((w64 ((w64 (b*1440))+a.From))-c))*60000))) (aa (vI e) (aa (vI (w64 (e*60000))) (aa (vI (w64 ((w64 ((w64 ((w64 ((w64 (b*1440))+a.From))-c))*60000))+(w64 (e*60000))))) (aJ (.d (.agg (Window.enc (⟨(w64 ((w64 ((w64 ((w64 (b*1440))+a.From))-c))*60000)),(w64 ((w64 ((w64 ((w64 ((w64 (b*1440))+a.From))-c))*60000))+(w64 (e*60000))))⟩:Window)))) wz (by kernel_rfl) (gp 0 il ft 1 vH rfl rfl [(vI (w64 ((w64 ((w64 ((w64 (b*1440))+a.From))-c))*60000))),(vI (w64 ((w64 ((w64 ((w64 ((w64 (b*1440))+a.From))-c))*60000))+(w64 (e*60000)))))] rfl wz (ah ?_))))))))))))))))))))
  obtain rfl:=ae g
  exact aB (aM [(.d (.agg (Window.enc (⟨(w64 ((w64 ((w64 ((w64 (b*1440))+a.From))-c))*60000)),(w64 ((w64 ((w64 ((w64 ((w64 (b*1440))+a.From))-c))*60000))+(w64 (e*60000))))⟩:Window))))] ⟨⟨1,_,_,_,_,_,_,_,rfl,rfl,vH,CL,rfl⟩,trivial⟩)
theorem FH {a:Window} {b:Window} {r:Window} (c:yw a b=some r) :
  FnM Tryz.prog 93 [(.d (.agg (Window.enc a))),(.d (.agg (Window.enc b)))] [] (.d (.agg (Window.enc r))) []:=by
 refine FnM.of_wH ⟨Tryz.prog,16,[],[]⟩ rfl Tryz.func93 rfl rfl (lb_ rfl) (by kernel_rfl) ?_
 unfold yw at c
 refine ai (eT 0 (.inl rfl) [(vI a.From),(vI a.To)] rfl rfl wz (λe=>eT 0 (.inl rfl) [(vI b.From),(vI b.To)] rfl rfl wz (λf=>bZ 0 (.inl rfl) z116 rfl wz (λg=>ah (ai (aH oU rfl 0 rfl wz (aC 0 0 il ft sz3 ag3 rfl rfl (vI a.From) rfl wz (aH oU rfl 0 rfl wz (aC 0 1 il ft sz3 ag3 rfl rfl (vI b.From) rfl wz (vG (vI (xH a.From b.From)) rfl (.inr rfl) wz (aH pg rfl 1 rfl wz (aC 0 0 il ft sz3 ag3 rfl rfl (vI a.To) rfl wz (aH pg rfl 1 rfl wz (aC 0 1 il ft sz3 ag3 rfl rfl (vI b.To) rfl wz (vG (vI (Al a.To b.To)) rfl (.inl rfl) wz (aJ (.d (.agg (Window.enc (⟨(xH a.From b.From),(Al a.To b.To)⟩:Window)))) wz (by kernel_rfl) (gp 0 il ft 2 vH rfl rfl [(vI (xH a.From b.From)),(vI (Al a.To b.To))] rfl wz (ah ?_))))))))))))))))))
 obtain rfl:=ae c
 exact aB (aM [(.d (.agg (Window.enc (⟨(xH a.From b.From),(Al a.To b.To)⟩:Window))))] ⟨⟨2,_,_,_,_,_,_,_,rfl,rfl,vH,CL,rfl⟩,trivial⟩)
end Go.Proofs.YtadpbmfnnlkdlacGreatDoor.Law

