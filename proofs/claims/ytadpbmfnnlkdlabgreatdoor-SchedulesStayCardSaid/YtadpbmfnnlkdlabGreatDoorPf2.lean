/-
 The machine computes these plain functions (written by a program of ours).
-/
import Derived.Test.YtadpbmfnnlkdlabGreatDoorFacts
import Derived.Test.YtadpbmfnnlkdlabGreatDoorDefs
import Derived.Test.YtadpbmfnnlkdlabGreatDoorPf1
import Derived.Test.YtadpbmfnnlkdlabGreatDoorShelf
open Go Go.Eng Go.Proofs
namespace Go.Proofs.YtadpbmfnnlkdlabGreatDoor.Law
set_option maxRecDepth 100000
set_option linter.unusedVariables false
set_option maxHeartbeats 1000000
theorem CV {b:Entry} {c:Entry} {r:Bool} (e:vW b c=some r) :
  FnM Tryz.prog 24 [(.d (.agg (Entry.enc b))),(.d (.agg (Entry.enc c)))] [] (vB r) []:=by
 refine FnM.of_wH ⟨Tryz.prog,94,[],[]⟩ rfl Tryz.func24 rfl rfl (lb_ rfl) (by kernel_rfl) ?_
 unfold vW at e
 refine aj (dQ 0 (.inl rfl) (Entry.v b) rfl rfl wz (λy=>dQ 0 (.inl rfl) (Entry.v c) rfl rfl wz (λz=>aa (vB false) (ah (au ?_)))))
 obtain ⟨s,a,e⟩:=bind_some e
 refine aP [(4,(vB s))] [(y,some (.cells 13 (Entry.v b))),(z,some (.cells 13 (Entry.v c)))] ?_ ?_
 ·refine av (aH sU rfl 0 rfl wz (ay 0 0 il ft sz9 ag9 rfl rfl (vS b.Key) rfl wz (aH sU rfl 0 rfl wz (ay 0 1 il ft sz9 ag9 rfl rfl (vS c.Key) rfl wz (aa (vB (sEq b.Key c.Key)) ?_)))))
  rcases ak a with⟨o,a⟩|⟨o,a⟩
  ·refine aD rfl o wz (aH J8 rfl 1 rfl wa (ay 0 0 il ft sz9 ag9 rfl rfl (vS b.Item) rfl wa (aH J8 rfl 1 rfl wa (ay 0 1 il ft sz9 ag9 rfl rfl (vS c.Item) rfl wa (aK (vB (sEq b.Item c.Item)) wa rfl (aa (vB (sEq b.Item c.Item)) ?_))))))
   rcases ak a with⟨p,a⟩|⟨p,a⟩
   ·refine aD rfl p wz (aH zL rfl 2 rfl wa (ay 0 0 il ft sz3 ag3 rfl rfl (vI b.Version) rfl wa (aH zL rfl 2 rfl wa (ay 0 1 il ft sz3 ag3 rfl rfl (vI c.Version) rfl wa (aK (vB (b.Version==c.Version)) wa rfl (aa (vB (b.Version==c.Version)) ?_))))))
    rcases ak a with⟨q,a⟩|⟨q,a⟩
    ·refine aD rfl q wz (aH yf rfl 3 rfl wa (ay 0 0 il ft sz3 ag3 rfl rfl (vI b.First) rfl wa (aH yf rfl 3 rfl wa (ay 0 1 il ft sz3 ag3 rfl rfl (vI c.First) rfl wa (aK (vB (b.First==c.First)) wa rfl (aa (vB (b.First==c.First)) ?_))))))
     rcases ak a with⟨f,a⟩|⟨f,a⟩
     ·refine aD rfl f wz (aH xM rfl 4 rfl wa (ay 0 0 il ft sz3 ag3 rfl rfl (vI b.Last) rfl wa (aH xM rfl 4 rfl wa (ay 0 1 il ft sz3 ag3 rfl rfl (vI c.Last) rfl wa (aK (vB (b.Last==c.Last)) wa rfl (aa (vB (b.Last==c.Last)) ?_))))))
      rcases ak a with⟨g,a⟩|⟨g,a⟩
      ·refine aD rfl g wz (aH G9 rfl 5 rfl wa (ay 0 0 il ft sz3 ag3 rfl rfl (vI b.Every) rfl wa (aH G9 rfl 5 rfl wa (ay 0 1 il ft sz3 ag3 rfl rfl (vI c.Every) rfl wa (aK (vB (b.Every==c.Every)) wa rfl (aa (vB (b.Every==c.Every)) ?_))))))
       rcases ak a with⟨h,a⟩|⟨h,a⟩
       ·refine aD rfl h wz (aH Gs rfl 6 rfl wa (ay 0 0 il ft sz3 ag3 rfl rfl (vI b.Days) rfl wa (aH Gs rfl 6 rfl wa (ay 0 1 il ft sz3 ag3 rfl rfl (vI c.Days) rfl wa (aK (vB (b.Days==c.Days)) wa rfl (aa (vB (b.Days==c.Days)) ?_))))))
        rcases ak a with⟨i,a⟩|⟨i,a⟩
        ·refine aD rfl i wz (aH pU rfl 7 rfl wa (ay 0 0 il ft sF xE rfl rfl (vL eI b.Except) rfl wa (aH pU rfl 7 rfl wa (ay 0 1 il ft sF xE rfl rfl (vL eI c.Except) rfl wa ?_))))
         obtain ⟨A,w,a⟩:=bind_some a
         refine aF (pu w) rfl hb33 rfl rfl rfl rfl wa (aa (vB A) ?_)
         rcases ak a with⟨j,a⟩|⟨j,a⟩
         ·refine aD rfl j wz (aH Dm rfl 8 rfl wa (ay 0 0 il ft sz3 ag3 rfl rfl (vI b.From) rfl wa (aH Dm rfl 8 rfl wa (ay 0 1 il ft sz3 ag3 rfl rfl (vI c.From) rfl wa (aK (vB (b.From==c.From)) wa rfl (aa (vB (b.From==c.From)) ?_))))))
          rcases ak a with⟨k,a⟩|⟨k,a⟩
          ·refine aD rfl k wz (aH F7 rfl 9 rfl wa (ay 0 0 il ft sz3 ag3 rfl rfl (vI b.To) rfl wa (aH F7 rfl 9 rfl wa (ay 0 1 il ft sz3 ag3 rfl rfl (vI c.To) rfl wa (aK (vB (b.To==c.To)) wa rfl (aa (vB (b.To==c.To)) ?_))))))
           rcases ak a with⟨l,a⟩|⟨l,a⟩
           ·refine aD rfl l wz (aH zQ rfl 10 rfl wa (ay 0 0 il ft sz3 ag3 rfl rfl (vI b.Prio) rfl wa (aH zQ rfl 10 rfl wa (ay 0 1 il ft sz3 ag3 rfl rfl (vI c.Prio) rfl wa (aK (vB (b.Prio==c.Prio)) wa rfl (aa (vB (b.Prio==c.Prio)) ?_))))))
            rcases ak a with⟨m,a⟩|⟨m,a⟩
            ·refine aD rfl m wz (aH mI rfl 11 rfl wa (ay 0 0 il ft tV xn rfl rfl (vL eS b.Tags) rfl wa (aH mI rfl 11 rfl wa (ay 0 1 il ft tV xn rfl rfl (vL eS c.Tags) rfl wa ?_))))
             obtain ⟨B,x,a⟩:=bind_some a
             refine aF (jc x) rfl hb15 rfl rfl rfl rfl wa (aa (vB B) ?_)
             rcases ak a with⟨n,a⟩|⟨n,a⟩
             ·refine aD rfl n wz (aH CG rfl 12 rfl wa (ay 0 0 il ft sz4 ag4 rfl rfl (vB b.Gone) rfl wa (aH CG rfl 12 rfl wa (ay 0 1 il ft sz4 ag4 rfl rfl (vB c.Gone) rfl wa (h_beql un4 rfl rfl wa (aa (vB (b.Gone==c.Gone)) (aa (vB (b.Gone==c.Gone)) (ah ?_))))))))
              obtain rfl:=af a
              exact cu
             ·refine aD rfl n wz (ae (ae (ae (ae (ae (aa (vB false) (aa (vB false) (ah ?_))))))))
              obtain rfl:=af a
              exact cu
            ·refine aD rfl m wz (ae (ae (ae (ae (ae (aa (vB false) (aa (vB false) (ae (ae (ae (ae (ae (aa (vB false) (aa (vB false) (ah ?_)))))))))))))))
             obtain rfl:=af a
             exact cu
           ·refine aD rfl l wz (ae (ae (ae (ae (ae (aa (vB false) (aa (vB false) (ae (ae (ae (ae (ae (aa (vB false) (aa (vB false) (ae (ae (ae (ae (ae (aa (vB false) (aa (vB false) (ah ?_))))))))))))))))))))))
            obtain rfl:=af a
            exact cu
          ·refine aD rfl k wz (ae (ae (ae (ae (ae (aa (vB false) (aa (vB false) (ae (ae (ae (ae (ae (aa (vB false) (aa (vB false) (ae (ae (ae (ae (ae (aa (vB false) (aa (vB false) (ae (ae ?_)))))))))))))))))))))))
           refine ae (ae (ae (aa (vB false) (aa (vB false) (ah ?_)))))
           obtain rfl:=af a
           exact cu
         ·refine aD rfl j wz (ae (ae (ae (ae (ae (aa (vB false) (aa (vB false) (ae (ae (ae (ae (ae (aa (vB false) (aa (vB false) (ae (ae (ae (ae (ae (aa (vB false) (aa (vB false) (ae (ae ?_)))))))))))))))))))))))
          refine ae (ae (ae (aa (vB false) (aa (vB false) (ae (ae (ae (ae (ae (aa (vB false) (aa (vB false) (ah ?_))))))))))))
          obtain rfl:=af a
          exact cu
        ·refine aD rfl i wz (ae (ae (ae (ae (ae (aa (vB false) (aa (vB false) (ae (ae (ae (ae (ae (aa (vB false) (aa (vB false) (ae (ae (ae (ae (ae (aa (vB false) (aa (vB false) (ae (ae ?_)))))))))))))))))))))))
         refine ae (ae (ae (aa (vB false) (aa (vB false) (ae (ae (ae (ae (ae (aa (vB false) (aa (vB false) (ae (ae (ae (ae (ae (aa (vB false) (aa (vB false) (ah ?_)))))))))))))))))))
         obtain rfl:=af a
         exact cu
       ·refine aD rfl h wz (ae (ae (ae (ae (ae (aa (vB false) (aa (vB false) (ae (ae (ae (ae (ae (aa (vB false) (aa (vB false) (ae (ae (ae (ae (ae (aa (vB false) (aa (vB false) (ae (ae ?_)))))))))))))))))))))))
        refine ae (ae (ae (aa (vB false) (aa (vB false) (ae (ae (ae (ae (ae (aa (vB false) (aa (vB false) (ae (ae (ae (ae (ae (aa (vB false) (aa (vB false) (ae (ae (ae (ae (ae ?_)))))))))))))))))))))))
        refine aa (vB false) (aa (vB false) (ah ?_))
        obtain rfl:=af a
        exact cu
      ·refine aD rfl g wz (ae (ae (ae (ae (ae (aa (vB false) (aa (vB false) (ae (ae (ae (ae (ae (aa (vB false) (aa (vB false) (ae (ae (ae (ae (ae (aa (vB false) (aa (vB false) (ae (ae ?_)))))))))))))))))))))))
       refine ae (ae (ae (aa (vB false) (aa (vB false) (ae (ae (ae (ae (ae (aa (vB false) (aa (vB false) (ae (ae (ae (ae (ae (aa (vB false) (aa (vB false) (ae (ae (ae (ae (ae ?_)))))))))))))))))))))))
       refine aa (vB false) (aa (vB false) (ae (ae (ae (ae (ae (aa (vB false) (aa (vB false) (ah ?_)))))))))
       obtain rfl:=af a
       exact cu
     ·refine aD rfl f wz (ae (ae (ae (ae (ae (aa (vB false) (aa (vB false) (ae (ae (ae (ae (ae (aa (vB false) (aa (vB false) (ae (ae (ae (ae (ae (aa (vB false) (aa (vB false) (ae (ae ?_)))))))))))))))))))))))
      refine ae (ae (ae (aa (vB false) (aa (vB false) (ae (ae (ae (ae (ae (aa (vB false) (aa (vB false) (ae (ae (ae (ae (ae (aa (vB false) (aa (vB false) (ae (ae (ae (ae (ae ?_)))))))))))))))))))))))
      refine aa (vB false) (aa (vB false) (ae (ae (ae (ae (ae (aa (vB false) (aa (vB false) (ae (ae (ae (ae (ae (aa (vB false) (aa (vB false) (ah ?_))))))))))))))))
      obtain rfl:=af a
      exact cu
    ·refine aD rfl q wz (ae (ae (ae (ae (ae (aa (vB false) (aa (vB false) (ae (ae (ae (ae (ae (aa (vB false) (aa (vB false) (ae (ae (ae (ae (ae (aa (vB false) (aa (vB false) (ae (ae ?_)))))))))))))))))))))))
     refine ae (ae (ae (aa (vB false) (aa (vB false) (ae (ae (ae (ae (ae (aa (vB false) (aa (vB false) (ae (ae (ae (ae (ae (aa (vB false) (aa (vB false) (ae (ae (ae (ae (ae ?_)))))))))))))))))))))))
     refine aa (vB false) (aa (vB false) (ae (ae (ae (ae (ae (aa (vB false) (aa (vB false) (ae (ae (ae (ae (ae (aa (vB false) (aa (vB false) (ae (ae (ae (ae (ae (aa (vB false) (aa (vB false) (ah ?_)))))))))))))))))))))))
     obtain rfl:=af a
     exact cu
   ·refine aD rfl p wz (ae (ae (ae (ae (ae (aa (vB false) (aa (vB false) (ae (ae (ae (ae (ae (aa (vB false) (aa (vB false) (ae (ae (ae (ae (ae (aa (vB false) (aa (vB false) (ae (ae ?_)))))))))))))))))))))))
    refine ae (ae (ae (aa (vB false) (aa (vB false) (ae (ae (ae (ae (ae (aa (vB false) (aa (vB false) (ae (ae (ae (ae (ae (aa (vB false) (aa (vB false) (ae (ae (ae (ae (ae ?_)))))))))))))))))))))))
    refine aa (vB false) (aa (vB false) (ae (ae (ae (ae (ae (aa (vB false) (aa (vB false) (ae (ae (ae (ae (ae (aa (vB false) (aa (vB false) (ae (ae (ae (ae (ae (aa (vB false) (aa (vB false) (ae ?_)))))))))))))))))))))))
    refine ae (ae (ae (ae (aa (vB false) (aa (vB false) (ah ?_))))))
    obtain rfl:=af a
    exact cu
  ·refine aD rfl o wz (ae (ae (ae (ae (ae (aa (vB false) (aa (vB false) (ae (ae (ae (ae (ae (aa (vB false) (aa (vB false) (ae (ae (ae (ae (ae (aa (vB false) (aa (vB false) (ae (ae ?_)))))))))))))))))))))))
   refine ae (ae (ae (aa (vB false) (aa (vB false) (ae (ae (ae (ae (ae (aa (vB false) (aa (vB false) (ae (ae (ae (ae (ae (aa (vB false) (aa (vB false) (ae (ae (ae (ae (ae ?_)))))))))))))))))))))))
   refine aa (vB false) (aa (vB false) (ae (ae (ae (ae (ae (aa (vB false) (aa (vB false) (ae (ae (ae (ae (ae (aa (vB false) (aa (vB false) (ae (ae (ae (ae (ae (aa (vB false) (aa (vB false) (ae ?_)))))))))))))))))))))))
   refine ae (ae (ae (ae (aa (vB false) (aa (vB false) (ae (ae (ae (ae (ae (aa (vB false) (aa (vB false) (ah ?_)))))))))))))
   obtain rfl:=af a
   exact cu
 ·rintro ⟨⟩ _ E C t u
  refine aN _ t u ?_
  obtain rfl:=af e
  exact aC (aL [(vB s)] ⟨rfl,trivial⟩)
theorem EK {m:(List (ByteArray×Entry))} :
  FnM Tryz.prog 26 [(.map (aG 0))] [(bM D.str (λx=>D.agg (Entry.enc x)) m)] (.fn 45 [(.ref (aG 1) 0 0)]) [some (bM D.str (λx=>D.agg (Entry.enc x)) m),some (.cells 1 [(.map (aG 0))])] :=
 Pn (λmb w=>Tryz.maps_Keys_26 mb w) _
theorem CR {m:(List (ByteArray×Entry))} {r:List ByteArray} (a:zk m=some r) :
  FnM Tryz.prog 25 [(.fn 45 [(.ref (aG 0) 0 0)])] [.cells 1 [(.map (aG 1))],(bM D.str (λx=>D.agg (Entry.enc x)) m)] (vL eS r) [some (.cells 1 [(.map (aG 1))]),some (bM D.str (λx=>D.agg (Entry.enc x)) m)] :=
 FU (eV:=(λx=>D.agg (Entry.enc x))) rfl (by kernel_rfl) (λb nn Bm D0 w h1 h2 h3 h4 h5=>Tryz.sorted_Keys_45 b nn Bm D0 w h1 h2 h3 h4 h5) a
theorem wJ {b:(List Int)} {r:(List Int)} (a:iY b=some r) :
  FnM Tryz.prog 46 [(vL eI b)] [] (gV (aG 0) 1 r) (([]:List Box).map some++gO 1 eI r):=by
 refine FnM.of_wH ⟨Tryz.prog,8,[],[]⟩ rfl Tryz.func46 rfl rfl (lb_ rfl) (by kernel_rfl) ?_
 unfold iY at a
 refine aj (aa .nil (ah (au (aj (aa (vL eI b) (NA sN rfl wz (λd e=>ah ?_)))))))
 cases d with
 | true =>
  refine aB rfl rfl ?_
  obtain rfl:=e rfl
  replace a:=Ic a
  refine aj (aa .nil (ah (iO (λh => ?_))))
  obtain rfl:=af a
  exact aC (Lt (outs:=([]:List Box)) (.inr rfl) 0 rfl rfl rfl (by kernel_rfl) (by kernel_rfl))
 | false =>
  refine aA rfl rfl (ax (aj (O0 ko yQ rfl wz (aa (vL eI b) ?_))))
  obtain ⟨c,f,a⟩:=bind_some a
  refine P5 0 (.inl rfl) Jy Jy sz3 z3 rfl (by decide) by3 (by decide) (λ_=>rfl) rfl rfl f wz (λg=>aa (gV g 1 c) (ah ?_))
  obtain rfl:=af a
  exact aC (Lt (outs:=([]:List Box)) (.inr rfl) 0 rfl rfl rfl (by kernel_rfl) (by kernel_rfl))
theorem wm {xs r:(List Int)} (a:iY xs=some r) :
  FnM Tryz.prog 46 [(vL eI xs)] [] (.d (.wild 1 r.length)) [] :=
 FnM.wild (wJ a)
theorem qQ {b:(List ByteArray)} {r:(List ByteArray)} (a:fB b=some r) :
  FnM Tryz.prog 47 [(vL eS b)] [] (gV (aG 0) 1 r) (([]:List Box).map some++gO 1 eS r):=by
 refine FnM.of_wH ⟨Tryz.prog,8,[],[]⟩ rfl Tryz.func47 rfl rfl (lb_ rfl) (by kernel_rfl) ?_
 unfold fB at a
 refine aj (aa .nil (ah (au (aj (aa (vL eS b) (NA yz rfl wz (λd e=>ah ?_)))))))
 cases d with
 | true =>
  refine aB rfl rfl ?_
  obtain rfl:=e rfl
  replace a:=Ic a
  refine aj (aa .nil (ah (iO (λh => ?_))))
  obtain rfl:=af a
  exact aC (Lt (outs:=([]:List Box)) (.inr rfl) 0 rfl rfl rfl (by kernel_rfl) (by kernel_rfl))
 | false =>
  refine aA rfl rfl (ax (aj (O0 qW Gq rfl wz (aa (vL eS b) ?_))))
  obtain ⟨c,f,a⟩:=bind_some a
  refine P5 0 (.inl rfl) Hy Hy sz9 z9 rfl (by decide) by9 (by decide) (λ_=>rfl) rfl rfl f wz (λg=>aa (gV g 1 c) (ah ?_))
  obtain rfl:=af a
  exact aC (Lt (outs:=([]:List Box)) (.inr rfl) 0 rfl rfl rfl (by kernel_rfl) (by kernel_rfl))
theorem qL {xs r:(List ByteArray)} (a:fB xs=some r) :
  FnM Tryz.prog 47 [(vL eS xs)] [] (.d (.wild 1 r.length)) [] :=
 FnM.wild (qQ a)
theorem BZ {a:Entry} {r:Entry} (b:mZ a=some r) :
  FnM Tryz.prog 27 [(.d (.agg (Entry.enc a)))] [] (.d (.agg (Entry.encW r))) []:=by
 refine FnM.of_wH ⟨Tryz.prog,12,[],[]⟩ rfl Tryz.func27 rfl rfl (lb_ rfl) (by kernel_rfl) ?_
 unfold mZ at b
 refine aj (dQ 0 (.inl rfl) (Entry.v a) rfl rfl wz (λh=>bZ 0 (.inl rfl) z37 rfl wz (λi=>ah (au (bI (aH pU rfl 7 rfl wz (ay 1 0 (.inr (by kernel_rfl)) (λ_ _ ag=>trivial) sF xE rfl rfl (vL eI a.Except) rfl wz ?_)))))))
 obtain ⟨c,f,b⟩:=bind_some b
 refine aF (wm f) rfl hb46 rfl rfl rfl rfl wz (aH mI rfl 11 rfl wz (ay 4 0 (.inr (by kernel_rfl)) (λ_ _ ag=>⟨.inl ⟨rfl,rfl⟩,trivial⟩) tV xn rfl rfl (vL eS a.Tags) rfl wz ?_))
 obtain ⟨e,g,b⟩:=bind_some b
 refine aF (qL g) rfl hb47 rfl rfl rfl rfl wz (aH pU rfl 7 rfl wz (dY 7 (.inr (by kernel_rfl)) (λ_ _ ag=>⟨.inr (.inr (by kernel_rfl)),⟨.inr (.inr (by kernel_rfl)),trivial⟩⟩) 0 sF rfl rfl [(vS a.Key),(vS a.Item),(vI a.Version),(vI a.First),(vI a.Last),(vI a.Every),(vI a.Days),(.d (.wild 1 c.length)),(vI a.From),(vI a.To),(vI a.Prio),(vL eS a.Tags),(vB a.Gone)] rfl wz (aH mI rfl 11 rfl wz (dY 9 (.inr (by kernel_rfl)) (λ_ _ ag=>⟨.inr (.inr (by kernel_rfl)),⟨.inr (.inr (by kernel_rfl)),⟨.inr (.inr (by kernel_rfl)),trivial⟩⟩⟩) 0 tV rfl rfl [(vS a.Key),(vS a.Item),(vI a.Version),(vI a.First),(vI a.Last),(vI a.Every),(vI a.Days),(.d (.wild 1 c.length)),(vI a.From),(vI a.To),(vI a.Prio),(.d (.wild 1 e.length)),(vB a.Gone)] rfl wz (ah (aj (ay 0 0 il ft kH qx rfl rfl (.d (.agg (Entry.encW (⟨a.Key,a.Item,a.Version,a.First,a.Last,a.Every,a.Days,c,a.From,a.To,a.Prio,e,a.Gone⟩:Entry)))) rfl wz (dY 0 il ft 1 kH rfl rfl [(vS a.Key),(vS a.Item),(vI a.Version),(vI a.First),(vI a.Last),(vI a.Every),(vI a.Days),(.d (.wild 1 c.length)),(vI a.From),(vI a.To),(vI a.Prio),(.d (.wild 1 e.length)),(vB a.Gone)] rfl wz (ah ?_)))))))))
 obtain rfl:=af b
 exact aC (aL [(.d (.agg (Entry.encW (⟨a.Key,a.Item,a.Version,a.First,a.Last,a.Every,a.Days,c,a.From,a.To,a.Prio,e,a.Gone⟩:Entry))))] ⟨⟨1,_,_,_,_,_,_,_,rfl,rfl,kH,qx,rfl⟩,trivial⟩)
theorem wN {a:(List ByteArray)} {r:Unit} (g:j5 a=some r) :
  FnM Tryz.prog 7 [(.d (.wild 1 a.length))] [] (.tup []) []:=by
 refine FnM.of_wH ⟨Tryz.prog,14,[],[]⟩ rfl Tryz.func7 rfl rfl (lb_ rfl) (by kernel_rfl) ?_
 unfold j5 at g
 refine aj (aa (vS (⟨#[]⟩:ByteArray)) (ah (aj (aa (.d (.wild 1 a.length)) (Me yz rfl wz (aa (vI 0) (ah ?_)))))))
 obtain ⟨p,i,g⟩:=bind_some g
 obtain ⟨m,i⟩:=aW i
 refine cz (λ(f:Unit)=>[]) (λ(f:Unit)=>[]) (λ(b:Nat)=>(λ(f:Unit)=>[(0,(.d (.wild 1 a.length))),(2,(vS (⟨#[]⟩:ByteArray))),(5,(vI (a.length:Int))),(6,(vI (b:Int)))])) (λk x s=>jk a k x s) p (List.range ((a.length:Int)).toNat) () i rfl (aI rfl) ?_ ?_
 ·rintro ⟨b,j,f⟩ ⟨e,c⟩
  dsimp only at e c
  cases j with
  | nil =>
   obtain rfl:=af e
   refine aj (aa (vB (decide ((b:Int)<(a.length:Int)))) (ah ?_))
   refine au (aA rfl (nO c) (aS ?_))
   exact aV (f) rfl rfl (aI rfl)
  | cons w j =>
   obtain ⟨t,h,e⟩:=bind_some e
   refine aj (aa (vB (decide ((b:Int)<(a.length:Int)))) (ah ?_))
   refine au (aB rfl (lu c) (ax ?_))
   unfold jk at h
   refine au (aM (aj (aa (vI (b:Int)) (aa (vI (b:Int)) (ah (av (aa (.d (.wild 1 a.length)) (aa (vI (b:Int)) (aa (vS (⟨#[]⟩:ByteArray)) ?_)))))))))
   obtain ⟨_,l,h⟩:=bind_some h
   refine P7 qW rfl rfl (jM l) (gK l) wz (QG sz9 rfl rfl wz (ah (av (dX (nR c m) wz rfl (aa (vI ((b+1:Nat):Int)) (ah ?_))))))
   obtain rfl:=af h
   exact aU (b+1,j,()) ⟨e,aQ c⟩ (ls_ _) rfl (aI rfl)
 ·rintro f n v q u o
  subst n
  show uz _ _ _ _ _ _ _ _
  obtain rfl:=af g
  exact xU (H0:=([]:Hp)) (sl':=envS []) o (PX [] trivial (.inl rfl))
theorem zH {a:(List Int)} {r:Unit} (g:mr a=some r) :
  FnM Tryz.prog 8 [(.d (.wild 1 a.length))] [] (.tup []) []:=by
 refine FnM.of_wH ⟨Tryz.prog,14,[],[]⟩ rfl Tryz.func8 rfl rfl (lb_ rfl) (by kernel_rfl) ?_
 unfold mr at g
 refine aj (aa (vI 0) (ah (aj (aa (.d (.wild 1 a.length)) (Me sN rfl wz (aa (vI 0) (ah ?_)))))))
 obtain ⟨p,i,g⟩:=bind_some g
 obtain ⟨m,i⟩:=aW i
 refine cz (λ(f:Unit)=>[]) (λ(f:Unit)=>[]) (λ(b:Nat)=>(λ(f:Unit)=>[(0,(.d (.wild 1 a.length))),(2,(vI 0)),(5,(vI (a.length:Int))),(6,(vI (b:Int)))])) (λk x s=>kr a k x s) p (List.range ((a.length:Int)).toNat) () i rfl (aI rfl) ?_ ?_
 ·rintro ⟨b,j,f⟩ ⟨e,c⟩
  dsimp only at e c
  cases j with
  | nil =>
   obtain rfl:=af e
   refine aj (aa (vB (decide ((b:Int)<(a.length:Int)))) (ah ?_))
   refine au (aA rfl (nO c) (aS ?_))
   exact aV (f) rfl rfl (aI rfl)
  | cons w j =>
   obtain ⟨t,h,e⟩:=bind_some e
   refine aj (aa (vB (decide ((b:Int)<(a.length:Int)))) (ah ?_))
   refine au (aB rfl (lu c) (ax ?_))
   unfold kr at h
   refine au (aM (aj (aa (vI (b:Int)) (aa (vI (b:Int)) (ah (av (aa (.d (.wild 1 a.length)) (aa (vI (b:Int)) (aa (vI 0) ?_)))))))))
   obtain ⟨_,l,h⟩:=bind_some h
   refine P7 ko rfl rfl (jM l) (gK l) wz (QG sz3 rfl rfl wz (ah (av (dX (nR c m) wz rfl (aa (vI ((b+1:Nat):Int)) (ah ?_))))))
   obtain rfl:=af h
   exact aU (b+1,j,()) ⟨e,aQ c⟩ (ls_ _) rfl (aI rfl)
 ·rintro f n v q u o
  subst n
  show uz _ _ _ _ _ _ _ _
  obtain rfl:=af g
  exact xU (H0:=([]:Hp)) (sl':=envS []) o (PX [] trivial (.inl rfl))
theorem A8 {g:(List Entry)} {h:(List Entry)} {r:(List Entry)×Int} (e:mR g h=some r) :
  FnM Tryz.prog 6 [(vL Entry.enc g),(vL Entry.enc h)] [] (vM [.int .i64 r.2] (gV (aG 0) 13 r.1)) (([]:List Box).map some++gO 13 Entry.encW r.1):=by
 refine FnM.of_wH ⟨Tryz.prog,94,[],[]⟩ rfl Tryz.func6 rfl rfl (lb_ rfl) (by kernel_rfl) ?_
 unfold mR at e
 refine aj (aa .nil (aa (vI 0) (ah (au (aj (aa (vL Entry.enc g) (aa (vL Entry.enc h) (aK (.d (.agg [dl Entry.enc g,dl Entry.enc h])) wz (by kernel_rfl) (aa (vI 0) (ah ?_))))))))))
 obtain ⟨Ý,Å,e⟩:=bind_some e
 obtain ⟨Ó,Å⟩:=aW Å
 refine cz (λ(T:Unit)=>[(0,(vL Entry.enc g)),(1,(vL Entry.enc h))]) (λ(T:Unit)=>[]) (λ(F:Nat)=>(λ(T:Unit)=>[(0,(vL Entry.enc g)),(1,(vL Entry.enc h)),(19,(.d (.agg [dl Entry.enc g,dl Entry.enc h]))),(20,(vI (F:Int)))])) (λk x s=>jf g h k x s) Ý (List.range (2:Int).toNat) () Å rfl (aI rfl) ?_ ?_
 ·rintro ⟨F,É,T⟩ ⟨B,L⟩
  dsimp only at B L
  cases É with
  | nil =>
   obtain rfl:=af B
   refine aj (aa (vB (decide ((F:Int)<2))) (ah ?_))
   refine au (aA rfl (nO L) (aS ?_))
   exact aV (T) rfl rfl (aI rfl)
  | cons æ É =>
   obtain ⟨Í,u,B⟩:=bind_some B
   refine aj (aa (vB (decide ((F:Int)<2))) (ah ?_))
   refine au (aB rfl (lu L) (ax ?_))
   unfold jf at u
   refine au (aM (aj ?_))
   obtain ⟨Ë,Ú,u⟩:=bind_some u
   refine h_idxa (enc:=(eL Entry.enc)) (xs:=([g,h]:List (List Entry))) un61 sz26 ag26 rfl rfl rfl rfl Ú (λ_=>rfl) (.inr rfl) (vL Entry.enc Ë) rfl wz (aa (vL Entry.enc Ë) (ah (aj (aa (vL Entry.enc Ë) ?_))))
   obtain ⟨I,Ô,u⟩:=bind_some u
   refine aF (iW Ô) rfl hb22 rfl rfl rfl rfl wz (aa (vI I) (ah (aj (aa (vI I) (aa (vB (I != 0)) (ah ?_))))))
   rcases ak u with⟨Y,u⟩|⟨Y,u⟩
   ·refine aB rfl Y (aj (aa (vI I) (aa .nil (aa (vI I) (ah (iO (λã => ?_)))))))
    obtain rfl:=af u
    obtain rfl:=af B
    obtain rfl:=af e
    exact aC (Ep (outs:=([]:List Box)) [.int .i64 I] (.inr rfl) 0 rfl ⟨rfl,trivial⟩ rfl rfl (by kernel_rfl) (by kernel_rfl))
   ·refine aA rfl Y (ax (av (dX (nR L Ó) wz rfl (aa (vI ((F+1:Nat):Int)) (ah ?_)))))
    obtain rfl:=af u
    exact aU (F+1,É,()) ⟨B,aQ L⟩ (ls_ _) rfl (aI rfl)
 ·rintro T Q U K l n
  subst Q
  refine aN _ l n (aj (Nj 0 (.inl rfl) wz (λc=>Io (b':=some (bM D.str (λx=>D.agg (Entry.enc x)) ([]:List (ByteArray×Entry)))) 0 rfl rfl (aa (.map c) (ah (au (aj (aa (vL Entry.enc g) (aa (vL Entry.enc h) (eP (([g,h]:List (List Entry)).map (eL Entry.enc)) Pv ez104 rfl rfl rfl rfl rfl wz ?_))))))))))
  obtain ⟨q,Õ,e⟩:=bind_some e
  refine aF (ow Õ) rfl hb23 rfl rfl rfl rfl wz (bS Cv rfl wz (aa (vI 0) (ah ?_)))
  obtain ⟨Þ,Æ,e⟩:=bind_some e
  obtain ⟨Ñ,Æ⟩:=aW Æ
  refine cz (λ(a:(List (ByteArray×Entry)))=>[(9,(.map c))]) (λ(a:(List (ByteArray×Entry)))=>[(c,some (bM D.str (λx=>D.agg (Entry.enc x)) a))]) (λ(w:Nat)=>(λ(a:(List (ByteArray×Entry)))=>[(9,(.map c)),(33,(vL Entry.enc q)),(34,(vI (q.length:Int))),(35,(vI (w:Int)))])) (λk x s=>jV k x s) Þ q ([]:List (ByteArray×Entry)) Æ rfl (aI rfl) ?_ ?_
  ·rintro ⟨w,È,a⟩ ⟨C,y⟩
   dsimp only at C y
   cases È with
   | nil =>
    obtain rfl:=af C
    refine aj (aa (vB (decide ((w:Int)<(q.length:Int)))) (ah ?_))
    refine au (aA rfl (drop_nil y) (aS ?_))
    exact aV (a) rfl rfl (aI rfl)
   | cons b È =>
    obtain ⟨Í,f,C⟩:=bind_some C
    refine aj (aa (vB (decide ((w:Int)<(q.length:Int)))) (ah ?_))
    refine au (aB rfl (bv y) (ax ?_))
    unfold jV at f
    refine au (aM (aj (dR yX rfl rfl (bJ y) rfl wz (bN kH qx rfl (.d (.agg (Entry.enc b))) rfl wz (bZ 0 (.inl rfl) z37 rfl wz (λR=>dY 0 il ft 1 kH rfl rfl (Entry.v b) rfl wz (ah (aj (aa (.map c) (aH sU rfl 0 rfl wz (ay 0 1 il ft sz9 ag9 rfl rfl (vS b.Key) rfl wz (F5 (eq:=eqS) (kD:=D.str) (vD:=(λx=>D.agg (Entry.enc x))) (es:=a) (k:=b.Key) (z:=(⟨(⟨#[]⟩:ByteArray),(⟨#[]⟩:ByteArray),0,0,0,0,0,([]:List Int),0,0,0,([]:List ByteArray),false⟩:Entry)) 0 0 il ft (λ_ _=>rfl) mt63 (by kernel_rfl) (by kernel_rfl) rfl rfl rfl (.tup [(.d (.agg (Entry.enc ((dK eqS a b.Key).getD (⟨(⟨#[]⟩:ByteArray),(⟨#[]⟩:ByteArray),0,0,0,0,0,([]:List Int),0,0,0,([]:List ByteArray),false⟩:Entry))))),(vB ((dK eqS a b.Key).isSome))]) rfl wz (aa (.tup [(.d (.agg (Entry.enc ((dK eqS a b.Key).getD (⟨(⟨#[]⟩:ByteArray),(⟨#[]⟩:ByteArray),0,0,0,0,0,([]:List Int),0,0,0,([]:List ByteArray),false⟩:Entry))))),(vB ((dK eqS a b.Key).isSome))]) (aa (.d (.agg (Entry.enc ((dK eqS a b.Key).getD (⟨(⟨#[]⟩:ByteArray),(⟨#[]⟩:ByteArray),0,0,0,0,0,([]:List Int),0,0,0,([]:List ByteArray),false⟩:Entry))))) (aa (vB ((dK eqS a b.Key).isSome)) (bZ 0 (.inl rfl) z37 rfl wz (λX=>dY 0 il ft 2 kH rfl rfl [(vS (((dK eqS a b.Key).getD (⟨(⟨#[]⟩:ByteArray),(⟨#[]⟩:ByteArray),0,0,0,0,0,([]:List Int),0,0,0,([]:List ByteArray),false⟩:Entry)).Key)),(vS (((dK eqS a b.Key).getD (⟨(⟨#[]⟩:ByteArray),(⟨#[]⟩:ByteArray),0,0,0,0,0,([]:List Int),0,0,0,([]:List ByteArray),false⟩:Entry)).Item)),(vI (((dK eqS a b.Key).getD (⟨(⟨#[]⟩:ByteArray),(⟨#[]⟩:ByteArray),0,0,0,0,0,([]:List Int),0,0,0,([]:List ByteArray),false⟩:Entry)).Version)),(vI (((dK eqS a b.Key).getD (⟨(⟨#[]⟩:ByteArray),(⟨#[]⟩:ByteArray),0,0,0,0,0,([]:List Int),0,0,0,([]:List ByteArray),false⟩:Entry)).First)),(vI (((dK eqS a b.Key).getD (⟨(⟨#[]⟩:ByteArray),(⟨#[]⟩:ByteArray),0,0,0,0,0,([]:List Int),0,0,0,([]:List ByteArray),false⟩:Entry)).Last)),(vI (((dK eqS a b.Key).getD (⟨(⟨#[]⟩:ByteArray),(⟨#[]⟩:ByteArray),0,0,0,0,0,([]:List Int),0,0,0,([]:List ByteArray),false⟩:Entry)).Every)),(vI (((dK eqS a b.Key).getD (⟨(⟨#[]⟩:ByteArray),(⟨#[]⟩:ByteArray),0,0,0,0,0,([]:List Int),0,0,0,([]:List ByteArray),false⟩:Entry)).Days)),(vL eI (((dK eqS a b.Key).getD (⟨(⟨#[]⟩:ByteArray),(⟨#[]⟩:ByteArray),0,0,0,0,0,([]:List Int),0,0,0,([]:List ByteArray),false⟩:Entry)).Except)),(vI (((dK eqS a b.Key).getD (⟨(⟨#[]⟩:ByteArray),(⟨#[]⟩:ByteArray),0,0,0,0,0,([]:List Int),0,0,0,([]:List ByteArray),false⟩:Entry)).From)),(vI (((dK eqS a b.Key).getD (⟨(⟨#[]⟩:ByteArray),(⟨#[]⟩:ByteArray),0,0,0,0,0,([]:List Int),0,0,0,([]:List ByteArray),false⟩:Entry)).To)),(vI (((dK eqS a b.Key).getD (⟨(⟨#[]⟩:ByteArray),(⟨#[]⟩:ByteArray),0,0,0,0,0,([]:List Int),0,0,0,([]:List ByteArray),false⟩:Entry)).Prio)),(vL eS (((dK eqS a b.Key).getD (⟨(⟨#[]⟩:ByteArray),(⟨#[]⟩:ByteArray),0,0,0,0,0,([]:List Int),0,0,0,([]:List ByteArray),false⟩:Entry)).Tags)),(vB (((dK eqS a b.Key).getD (⟨(⟨#[]⟩:ByteArray),(⟨#[]⟩:ByteArray),0,0,0,0,0,([]:List Int),0,0,0,([]:List ByteArray),false⟩:Entry)).Gone))] rfl wz (aa (vB ((dK eqS a b.Key).isSome)) (ah (au (au ?_)))))))))))))))))))))
    obtain ⟨á,j,f⟩:=bind_some f
    refine aP [(9,(.map c)),(11,(.ref R 0 0)),(12,(.ref X 0 0)),(13,(vB ((dK eqS a b.Key).isSome))),(33,(vL Entry.enc q)),(34,(vI (q.length:Int))),(35,(vI (w:Int))),(59,(vB á))] [(c,some (bM D.str (λx=>D.agg (Entry.enc x)) a)),(R,some (.cells 13 (Entry.v b))),(X,some (.cells 13 [(vS (((dK eqS a b.Key).getD (⟨(⟨#[]⟩:ByteArray),(⟨#[]⟩:ByteArray),0,0,0,0,0,([]:List Int),0,0,0,([]:List ByteArray),false⟩:Entry)).Key)),(vS (((dK eqS a b.Key).getD (⟨(⟨#[]⟩:ByteArray),(⟨#[]⟩:ByteArray),0,0,0,0,0,([]:List Int),0,0,0,([]:List ByteArray),false⟩:Entry)).Item)),(vI (((dK eqS a b.Key).getD (⟨(⟨#[]⟩:ByteArray),(⟨#[]⟩:ByteArray),0,0,0,0,0,([]:List Int),0,0,0,([]:List ByteArray),false⟩:Entry)).Version)),(vI (((dK eqS a b.Key).getD (⟨(⟨#[]⟩:ByteArray),(⟨#[]⟩:ByteArray),0,0,0,0,0,([]:List Int),0,0,0,([]:List ByteArray),false⟩:Entry)).First)),(vI (((dK eqS a b.Key).getD (⟨(⟨#[]⟩:ByteArray),(⟨#[]⟩:ByteArray),0,0,0,0,0,([]:List Int),0,0,0,([]:List ByteArray),false⟩:Entry)).Last)),(vI (((dK eqS a b.Key).getD (⟨(⟨#[]⟩:ByteArray),(⟨#[]⟩:ByteArray),0,0,0,0,0,([]:List Int),0,0,0,([]:List ByteArray),false⟩:Entry)).Every)),(vI (((dK eqS a b.Key).getD (⟨(⟨#[]⟩:ByteArray),(⟨#[]⟩:ByteArray),0,0,0,0,0,([]:List Int),0,0,0,([]:List ByteArray),false⟩:Entry)).Days)),(vL eI (((dK eqS a b.Key).getD (⟨(⟨#[]⟩:ByteArray),(⟨#[]⟩:ByteArray),0,0,0,0,0,([]:List Int),0,0,0,([]:List ByteArray),false⟩:Entry)).Except)),(vI (((dK eqS a b.Key).getD (⟨(⟨#[]⟩:ByteArray),(⟨#[]⟩:ByteArray),0,0,0,0,0,([]:List Int),0,0,0,([]:List ByteArray),false⟩:Entry)).From)),(vI (((dK eqS a b.Key).getD (⟨(⟨#[]⟩:ByteArray),(⟨#[]⟩:ByteArray),0,0,0,0,0,([]:List Int),0,0,0,([]:List ByteArray),false⟩:Entry)).To)),(vI (((dK eqS a b.Key).getD (⟨(⟨#[]⟩:ByteArray),(⟨#[]⟩:ByteArray),0,0,0,0,0,([]:List Int),0,0,0,([]:List ByteArray),false⟩:Entry)).Prio)),(vL eS (((dK eqS a b.Key).getD (⟨(⟨#[]⟩:ByteArray),(⟨#[]⟩:ByteArray),0,0,0,0,0,([]:List Int),0,0,0,([]:List ByteArray),false⟩:Entry)).Tags)),(vB (((dK eqS a b.Key).getD (⟨(⟨#[]⟩:ByteArray),(⟨#[]⟩:ByteArray),0,0,0,0,0,([]:List Int),0,0,0,([]:List ByteArray),false⟩:Entry)).Gone))]))] ?_ ?_
    ·refine av (aa (vB ((dK eqS a b.Key).isSome)) ?_)
     rcases ak j with⟨Z,j⟩|⟨Z,j⟩
     ·refine aD rfl Z wz (aH zL rfl 2 rfl wa (ay 0 2 il ft sz3 ag3 rfl rfl (vI (((dK eqS a b.Key).getD (⟨(⟨#[]⟩:ByteArray),(⟨#[]⟩:ByteArray),0,0,0,0,0,([]:List Int),0,0,0,([]:List ByteArray),false⟩:Entry)).Version)) rfl wa (aH zL rfl 2 rfl wa (ay 0 1 il ft sz3 ag3 rfl rfl (vI b.Version) rfl wa (aK (vB ((((dK eqS a b.Key).getD (⟨(⟨#[]⟩:ByteArray),(⟨#[]⟩:ByteArray),0,0,0,0,0,([]:List Int),0,0,0,([]:List ByteArray),false⟩:Entry)).Version)==b.Version)) wa rfl (aa (vB ((((dK eqS a b.Key).getD (⟨(⟨#[]⟩:ByteArray),(⟨#[]⟩:ByteArray),0,0,0,0,0,([]:List Int),0,0,0,([]:List ByteArray),false⟩:Entry)).Version)==b.Version)) ?_))))))
      rcases ak j with⟨À,j⟩|⟨À,j⟩
      ·refine aD rfl À wz (ay 0 2 il ft kH qx rfl rfl (.d (.agg (Entry.enc ((dK eqS a b.Key).getD (⟨(⟨#[]⟩:ByteArray),(⟨#[]⟩:ByteArray),0,0,0,0,0,([]:List Int),0,0,0,([]:List ByteArray),false⟩:Entry))))) rfl wa (ay 0 1 il ft kH qx rfl rfl (.d (.agg (Entry.enc b))) rfl wa ?_))
       obtain ⟨Ï,Ö,j⟩:=bind_some j
       refine aF (CV Ö) rfl hb24 rfl rfl rfl rfl wa (aK (vB (!Ï)) wa rfl (aa (vB (!Ï)) (ah ?_)))
       obtain rfl:=af j
       exact cu
      ·refine aD rfl À wz (ae (ae (ae (ae (aa (vB false) (ah ?_))))))
       obtain rfl:=af j
       exact cu
     ·refine aD rfl Z wz (ae (ae (ae (ae (ae (aa (vB false) (aa (vB false) (ae (ae (ae (ae (aa (vB false) (ah ?_)))))))))))))
      obtain rfl:=af j
      exact cu
    ·rintro ⟨⟩ _ U K l n
     refine aN _ l n ?_
     rcases ak f with⟨Á,f⟩|⟨Á,f⟩
     ·refine aB rfl Á (aj (aa .nil (aa (vI 13) (ah (iO (λä => ?_))))))
      obtain rfl:=af f
      obtain rfl:=af C
      obtain rfl:=af e
      exact aC (Ep (outs:=([]:List Box)) [.int .i64 13] (.inr rfl) 3 rfl ⟨rfl,trivial⟩ rfl rfl (by kernel_rfl) (by kernel_rfl))
     ·refine aA rfl Á (ax (au ?_))
      obtain ⟨â,O,f⟩:=bind_some f
      refine aP [(9,(.map c)),(11,(.ref R 0 0)),(33,(vL Entry.enc q)),(34,(vI (q.length:Int))),(35,(vI (w:Int))),(68,(vB â))] [(c,some (bM D.str (λx=>D.agg (Entry.enc x)) a)),(R,some (.cells 13 (Entry.v b))),(X,some (.cells 13 [(vS (((dK eqS a b.Key).getD (⟨(⟨#[]⟩:ByteArray),(⟨#[]⟩:ByteArray),0,0,0,0,0,([]:List Int),0,0,0,([]:List ByteArray),false⟩:Entry)).Key)),(vS (((dK eqS a b.Key).getD (⟨(⟨#[]⟩:ByteArray),(⟨#[]⟩:ByteArray),0,0,0,0,0,([]:List Int),0,0,0,([]:List ByteArray),false⟩:Entry)).Item)),(vI (((dK eqS a b.Key).getD (⟨(⟨#[]⟩:ByteArray),(⟨#[]⟩:ByteArray),0,0,0,0,0,([]:List Int),0,0,0,([]:List ByteArray),false⟩:Entry)).Version)),(vI (((dK eqS a b.Key).getD (⟨(⟨#[]⟩:ByteArray),(⟨#[]⟩:ByteArray),0,0,0,0,0,([]:List Int),0,0,0,([]:List ByteArray),false⟩:Entry)).First)),(vI (((dK eqS a b.Key).getD (⟨(⟨#[]⟩:ByteArray),(⟨#[]⟩:ByteArray),0,0,0,0,0,([]:List Int),0,0,0,([]:List ByteArray),false⟩:Entry)).Last)),(vI (((dK eqS a b.Key).getD (⟨(⟨#[]⟩:ByteArray),(⟨#[]⟩:ByteArray),0,0,0,0,0,([]:List Int),0,0,0,([]:List ByteArray),false⟩:Entry)).Every)),(vI (((dK eqS a b.Key).getD (⟨(⟨#[]⟩:ByteArray),(⟨#[]⟩:ByteArray),0,0,0,0,0,([]:List Int),0,0,0,([]:List ByteArray),false⟩:Entry)).Days)),(vL eI (((dK eqS a b.Key).getD (⟨(⟨#[]⟩:ByteArray),(⟨#[]⟩:ByteArray),0,0,0,0,0,([]:List Int),0,0,0,([]:List ByteArray),false⟩:Entry)).Except)),(vI (((dK eqS a b.Key).getD (⟨(⟨#[]⟩:ByteArray),(⟨#[]⟩:ByteArray),0,0,0,0,0,([]:List Int),0,0,0,([]:List ByteArray),false⟩:Entry)).From)),(vI (((dK eqS a b.Key).getD (⟨(⟨#[]⟩:ByteArray),(⟨#[]⟩:ByteArray),0,0,0,0,0,([]:List Int),0,0,0,([]:List ByteArray),false⟩:Entry)).To)),(vI (((dK eqS a b.Key).getD (⟨(⟨#[]⟩:ByteArray),(⟨#[]⟩:ByteArray),0,0,0,0,0,([]:List Int),0,0,0,([]:List ByteArray),false⟩:Entry)).Prio)),(vL eS (((dK eqS a b.Key).getD (⟨(⟨#[]⟩:ByteArray),(⟨#[]⟩:ByteArray),0,0,0,0,0,([]:List Int),0,0,0,([]:List ByteArray),false⟩:Entry)).Tags)),(vB (((dK eqS a b.Key).getD (⟨(⟨#[]⟩:ByteArray),(⟨#[]⟩:ByteArray),0,0,0,0,0,([]:List Int),0,0,0,([]:List ByteArray),false⟩:Entry)).Gone))]))] ?_ ?_
      ·refine av (aa (vB ((dK eqS a b.Key).isSome)) (aa (vB (!((dK eqS a b.Key).isSome))) ?_))
       rcases ak O with⟨Â,O⟩|⟨Â,O⟩
       ·refine aD rfl Â wz (ae (ae (ae (ae (ae (aa (vB true) (ah ?_)))))))
        obtain rfl:=af O
        exact cu
       ·refine aD rfl Â wz (aH zL rfl 2 rfl wa (ay 0 1 il ft sz3 ag3 rfl rfl (vI b.Version) rfl wa (aH zL rfl 2 rfl wa (ay 0 2 il ft sz3 ag3 rfl rfl (vI (((dK eqS a b.Key).getD (⟨(⟨#[]⟩:ByteArray),(⟨#[]⟩:ByteArray),0,0,0,0,0,([]:List Int),0,0,0,([]:List ByteArray),false⟩:Entry)).Version)) rfl wa (aK (vB (decide (b.Version>(((dK eqS a b.Key).getD (⟨(⟨#[]⟩:ByteArray),(⟨#[]⟩:ByteArray),0,0,0,0,0,([]:List Int),0,0,0,([]:List ByteArray),false⟩:Entry)).Version)))) wa rfl (aa (vB (decide (b.Version>(((dK eqS a b.Key).getD (⟨(⟨#[]⟩:ByteArray),(⟨#[]⟩:ByteArray),0,0,0,0,0,([]:List Int),0,0,0,([]:List ByteArray),false⟩:Entry)).Version)))) (ah ?_)))))))
        obtain rfl:=af O
        exact cu
      ·rintro ⟨⟩ _ U K l n
       refine aN _ l n ?_
       obtain ⟨Ð,P,f⟩:=bind_some f
       refine aP [(9,(.map c)),(33,(vL Entry.enc q)),(34,(vI (q.length:Int))),(35,(vI (w:Int)))] [(c,some (bM D.str (λx=>D.agg (Entry.enc x)) Ð)),(R,some (.cells 13 (Entry.v b))),(X,some (.cells 13 [(vS (((dK eqS a b.Key).getD (⟨(⟨#[]⟩:ByteArray),(⟨#[]⟩:ByteArray),0,0,0,0,0,([]:List Int),0,0,0,([]:List ByteArray),false⟩:Entry)).Key)),(vS (((dK eqS a b.Key).getD (⟨(⟨#[]⟩:ByteArray),(⟨#[]⟩:ByteArray),0,0,0,0,0,([]:List Int),0,0,0,([]:List ByteArray),false⟩:Entry)).Item)),(vI (((dK eqS a b.Key).getD (⟨(⟨#[]⟩:ByteArray),(⟨#[]⟩:ByteArray),0,0,0,0,0,([]:List Int),0,0,0,([]:List ByteArray),false⟩:Entry)).Version)),(vI (((dK eqS a b.Key).getD (⟨(⟨#[]⟩:ByteArray),(⟨#[]⟩:ByteArray),0,0,0,0,0,([]:List Int),0,0,0,([]:List ByteArray),false⟩:Entry)).First)),(vI (((dK eqS a b.Key).getD (⟨(⟨#[]⟩:ByteArray),(⟨#[]⟩:ByteArray),0,0,0,0,0,([]:List Int),0,0,0,([]:List ByteArray),false⟩:Entry)).Last)),(vI (((dK eqS a b.Key).getD (⟨(⟨#[]⟩:ByteArray),(⟨#[]⟩:ByteArray),0,0,0,0,0,([]:List Int),0,0,0,([]:List ByteArray),false⟩:Entry)).Every)),(vI (((dK eqS a b.Key).getD (⟨(⟨#[]⟩:ByteArray),(⟨#[]⟩:ByteArray),0,0,0,0,0,([]:List Int),0,0,0,([]:List ByteArray),false⟩:Entry)).Days)),(vL eI (((dK eqS a b.Key).getD (⟨(⟨#[]⟩:ByteArray),(⟨#[]⟩:ByteArray),0,0,0,0,0,([]:List Int),0,0,0,([]:List ByteArray),false⟩:Entry)).Except)),(vI (((dK eqS a b.Key).getD (⟨(⟨#[]⟩:ByteArray),(⟨#[]⟩:ByteArray),0,0,0,0,0,([]:List Int),0,0,0,([]:List ByteArray),false⟩:Entry)).From)),(vI (((dK eqS a b.Key).getD (⟨(⟨#[]⟩:ByteArray),(⟨#[]⟩:ByteArray),0,0,0,0,0,([]:List Int),0,0,0,([]:List ByteArray),false⟩:Entry)).To)),(vI (((dK eqS a b.Key).getD (⟨(⟨#[]⟩:ByteArray),(⟨#[]⟩:ByteArray),0,0,0,0,0,([]:List Int),0,0,0,([]:List ByteArray),false⟩:Entry)).Prio)),(vL eS (((dK eqS a b.Key).getD (⟨(⟨#[]⟩:ByteArray),(⟨#[]⟩:ByteArray),0,0,0,0,0,([]:List Int),0,0,0,([]:List ByteArray),false⟩:Entry)).Tags)),(vB (((dK eqS a b.Key).getD (⟨(⟨#[]⟩:ByteArray),(⟨#[]⟩:ByteArray),0,0,0,0,0,([]:List Int),0,0,0,([]:List ByteArray),false⟩:Entry)).Gone))]))] ?_ ?_
       ·rcases ak P with⟨Ã,P⟩|⟨Ã,P⟩
        ·refine aB rfl Ã (av (aa (.map c) (aH sU rfl 0 rfl wz (ay 0 1 il ft sz9 ag9 rfl rfl (vS b.Key) rfl wz (ay 0 1 il ft kH qx rfl rfl (.d (.agg (Entry.enc b))) rfl wz (K5 (eq:=eqS) (kD:=D.str) (vD:=(λx=>D.agg (Entry.enc x))) (es:=a) (k:=b.Key) (v:=b) 0 0 il ft (λ_ _=>rfl) mt63 (by kernel_rfl) rfl rfl rfl rfl wz (ah ?_)))))))
         obtain rfl:=af P
         exact cu
        ·refine aA rfl Ã (ax ?_)
         obtain rfl:=af P
         exact cu
       ·rintro ⟨⟩ _ U K l n
        refine aN _ l n (av (dX (bD y Ñ) wz rfl (aa (vI ((w+1:Nat):Int)) (ah ?_))))
        obtain rfl:=af f
        exact aU (w+1,È,Ð) ⟨C,aQ y⟩ (ls_ _) rfl (aI rfl)
  ·rintro a Q U K l n
   subst Q
   refine aN _ l n (au (aj (aa (.map c) (O4 (kD:=D.str) (vD:=(λx=>D.agg (Entry.enc x))) (es:=a) 0 0 il ft mt63 rfl rfl wz (aa (vB (decide ((a.length:Int)>200))) (ah ?_))))))
   rcases ak e with⟨Ä,e⟩|⟨Ä,e⟩
   ·refine aB rfl Ä (aj (aa .nil (aa (vI 2) (ah (iO (λå => ?_))))))
    obtain rfl:=af e
    exact aC (Ep (outs:=([]:List Box)) [.int .i64 2] (.inr rfl) 1 rfl ⟨rfl,trivial⟩ rfl rfl (by kernel_rfl) (by kernel_rfl))
   ·refine aA rfl Ä (ax (aj (aa .nil (ah (au (aj (aa (.map c) (h_calln [0] 1 (EK (m:=a)) rfl hb26 rfl (by kernel_rfl) (by kernel_rfl) (by kernel_rfl) (by kernel_rfl) (by kernel_rfl) (by kernel_rfl) (by kernel_rfl) (by decide) (by kernel_rfl) (by kernel_rfl) wz (λH=>(.fn 45 [(.ref (H 0) 0 0)])) (λ_=>by kernel_rfl) (λH=>([(c,some (bM D.str (λx=>D.agg (Entry.enc x)) a)),((H 0),some (.cells 1 [(.map c)]))]:Hp)) (λ_=>by kernel_rfl) ?_))))))))
    intro H
    obtain ⟨J,Ø,e⟩:=bind_some e
    refine fu 0 [1,0] il ft (CR Ø) rfl hb25 rfl (by kernel_rfl) (by kernel_rfl) (by kernel_rfl) (by kernel_rfl) (by kernel_rfl) (by kernel_rfl) (by kernel_rfl) (by decide) (by kernel_rfl) wz (vL eS J) (by kernel_rfl) ([(c,some (bM D.str (λx=>D.agg (Entry.enc x)) a)),((H 0),some (.cells 1 [(.map c)]))]:Hp) (by kernel_rfl) (bS yz rfl wz (aa (vI 0) (ah (iO (λÜ => ?_)))))
    obtain ⟨ß,Ç,e⟩:=bind_some e
    obtain ⟨Ò,Ç⟩:=aW Ç
    refine gH (σ:=(List Entry)) (N:=Nm) (λp=>(λ(t:List Entry) (o:Nm)=>([(14,(gV o 13 t))]:SL_)) p.1 p.2) (λp=>(λ(t:List Entry) (o:Nm)=>([(c,some (bM D.str (λx=>D.agg (Entry.enc x)) a)),((H 0),some (.cells 1 [(.map c)])),(o,gB 13 Entry.encW t)]:Hp)) p.1 p.2) (λ(G:Nat)=>(λp=>(λ(t:List Entry) (o:Nm)=>([(9,(.map c)),(14,(gV o 13 t)),(79,(vL eS J)),(80,(vI (J.length:Int))),(81,(vI (G:Int)))]:SL_)) p.1 p.2)) (λk x s=>kg a k x s) ß J (([]:List Entry),Ü) Ç rfl (aI rfl) ?_ ?_
    ·rintro ⟨G,Ê,t,o⟩ ⟨M,A⟩
     dsimp only at M A
     cases Ê with
     | nil =>
      obtain rfl:=af M
      refine aj (aa (vB (decide ((G:Int)<(J.length:Int)))) (ah ?_))
      refine au (aA rfl (drop_nil A) (aS ?_))
      exact aV (t,o) rfl rfl (aI rfl)
     | cons W Ê =>
      obtain ⟨Í,E,M⟩:=bind_some M
      refine aj (aa (vB (decide ((G:Int)<(J.length:Int)))) (ah ?_))
      refine au (aB rfl (bv A) (ax ?_))
      unfold kg at E
      refine au (aM (aj (dR qW rfl rfl (bJ A) rfl wz (bN sz9 ag9 rfl (vS W) rfl wz (aa (vS W) (ah (av (aa (gV o 13 t) (aa (.map c) (aa (vS W) (F5 (eq:=eqS) (kD:=D.str) (vD:=(λx=>D.agg (Entry.enc x))) (es:=a) (k:=W) (z:=(⟨(⟨#[]⟩:ByteArray),(⟨#[]⟩:ByteArray),0,0,0,0,0,([]:List Int),0,0,0,([]:List ByteArray),false⟩:Entry)) 0 0 il ft (λ_ _=>rfl) mt63 (by kernel_rfl) (by kernel_rfl) rfl rfl rfl (.d (.agg (Entry.enc ((dK eqS a W).getD (⟨(⟨#[]⟩:ByteArray),(⟨#[]⟩:ByteArray),0,0,0,0,0,([]:List Int),0,0,0,([]:List ByteArray),false⟩:Entry))))) rfl wz ?_)))))))))))
      obtain ⟨à,Ù,E⟩:=bind_some E
      refine aF (BZ Ù) rfl hb27 rfl rfl rfl rfl wz (eP (([à]:List Entry).map Entry.encW) yX ez26 rfl rfl rfl rfl rfl wz ?_)
      obtain ⟨Ì,Û,E⟩:=bind_some E
      refine kJ 0 il ft (i:=2) JV JV kH z37 rfl (by decide) by37 (by decide) (λ_=>rfl) rfl rfl rfl Û wz (λÎ=>aa (gV Î 13 Ì) (ah (av (dX (bD A Ò) wz rfl (aa (vI ((G+1:Nat):Int)) (ah ?_))))))
      obtain rfl:=af E
      exact aU (G+1,Ê,Ì,Î) ⟨M,aQ A⟩ (ls_ _) rfl (aI rfl)
    ·rintro ⟨t,o⟩ Q U K l n
     subst Q
     refine aN _ l n (aj (aa (gV o 13 t) (aa (gV o 13 t) (aa (vI 0) (ah ?_)))))
     obtain rfl:=af e
     exact aC (Ep (outs:=([]:List Box)) [.int .i64 0] (.inr rfl) 2 rfl ⟨rfl,trivial⟩ rfl rfl (by kernel_rfl) (by kernel_rfl))
theorem uC {a:(List Entry)} {r:Unit} (g:jh a=some r) :
  FnM Tryz.prog 9 [(.d (.wild 13 a.length))] [] (.tup []) []:=by
 refine FnM.of_wH ⟨Tryz.prog,14,[],[]⟩ rfl Tryz.func9 rfl rfl (lb_ rfl) (by kernel_rfl) ?_
 unfold jh at g
 refine aj (bZ 0 (.inl rfl) z37 rfl wz (λl=>ah (aj (aa (.d (.wild 13 a.length)) (Me Cv rfl wz (aa (vI 0) (ah ?_)))))))
 obtain ⟨q,i,g⟩:=bind_some g
 obtain ⟨n,i⟩:=aW i
 refine cz (λ(f:Unit)=>[]) (λ(f:Unit)=>[(l,some (.cells 13 [(vS (⟨#[]⟩:ByteArray)),(vS (⟨#[]⟩:ByteArray)),(vI 0),(vI 0),(vI 0),(vI 0),(vI 0),.nil,(vI 0),(vI 0),(vI 0),.nil,(vB false)]))]) (λ(b:Nat)=>(λ(f:Unit)=>[(0,(.d (.wild 13 a.length))),(2,(.ref l 0 0)),(5,(vI (a.length:Int))),(6,(vI (b:Int)))])) (λk x s=>ic a k x s) q (List.range ((a.length:Int)).toNat) () i rfl (aI rfl) ?_ ?_
 ·rintro ⟨b,j,f⟩ ⟨e,c⟩
  dsimp only at e c
  cases j with
  | nil =>
   obtain rfl:=af e
   refine aj (aa (vB (decide ((b:Int)<(a.length:Int)))) (ah ?_))
   refine au (aA rfl (nO c) (aS ?_))
   exact aV (f) rfl rfl (aI rfl)
  | cons y j =>
   obtain ⟨u,h,e⟩:=bind_some e
   refine aj (aa (vB (decide ((b:Int)<(a.length:Int)))) (ah ?_))
   refine au (aB rfl (lu c) (ax ?_))
   unfold ic at h
   refine au (aM (aj (aa (vI (b:Int)) (aa (vI (b:Int)) (ah (av (aa (.d (.wild 13 a.length)) (aa (vI (b:Int)) (ay 0 0 il ft kH qx rfl rfl (.agg [(vS (⟨#[]⟩:ByteArray)),(vS (⟨#[]⟩:ByteArray)),(vI 0),(vI 0),(vI 0),(vI 0),(vI 0),.nil,(vI 0),(vI 0),(vI 0),.nil,(vB false)]) rfl wz ?_)))))))))
   obtain ⟨_,m,h⟩:=bind_some h
   refine P7 yX rfl rfl (jM m) (gK m) wz (QG kH rfl rfl wz (ah (av (dX (nR c n) wz rfl (aa (vI ((b+1:Nat):Int)) (ah ?_))))))
   obtain rfl:=af h
   exact aU (b+1,j,()) ⟨e,aQ c⟩ (ls_ _) rfl (aI rfl)
 ·rintro f o w t v p
  subst o
  show uz _ _ _ _ _ _ _ _
  obtain rfl:=af g
  exact xU (H0:=([(l,some (.cells 13 [(vS (⟨#[]⟩:ByteArray)),(vS (⟨#[]⟩:ByteArray)),(vI 0),(vI 0),(vI 0),(vI 0),(vI 0),.nil,(vI 0),(vI 0),(vI 0),.nil,(vB false)]))]:Hp)) (sl':=envS []) p (PX [] trivial (.inl rfl))
theorem pq {c:Player} {r:Int} (a:gQ c=some r) :
  FnM Tryz.prog 48 [(.d (.agg (Player.enc c)))] [] (vI r) []:=by
 refine FnM.of_wH ⟨Tryz.prog,19,[],[]⟩ rfl Tryz.func48 rfl rfl (lb_ rfl) (by kernel_rfl) ?_
 unfold gQ at a
 refine aj (dQ 0 (.inl rfl) (Player.v c) rfl rfl wz (λh=>aa (vI 0) (ah (au (au ?_)))))
 obtain ⟨s,b,a⟩:=bind_some a
 refine aP [(1,(.ref h 0 0)),(12,(vB s))] [(h,some (.cells 4 (Player.v c)))] ?_ ?_
 ·refine av (aH pl30_0 rfl 0 rfl wz (ay 0 0 il ft sz9 ag9 rfl rfl (vS c.Key) rfl wz ?_))
  obtain ⟨q,o,b⟩:=bind_some b
  refine aF (fK o) rfl Dk rfl rfl rfl rfl wz (aa (vB (!q)) ?_)
  rcases ak b with⟨g,b⟩|⟨g,b⟩
  ·refine aD rfl g wz (ae (ae (ae (ae (aa (vB true) (ah ?_))))))
   obtain rfl:=af b
   exact cu
  ·refine aD rfl g wz (aH pl30_1 rfl 1 rfl wa (ay 0 0 il ft sz9 ag9 rfl rfl (vS c.Screen) rfl wa ?_))
   obtain ⟨j,p,b⟩:=bind_some b
   refine aF (fK p) rfl Dk rfl rfl rfl rfl wa (aK (vB (!j)) wa rfl (aa (vB (!j)) (ah ?_)))
   obtain rfl:=af b
   exact cu
 ·rintro ⟨⟩ _ w t k l
  refine aN _ k l ?_
  rcases ak a with⟨e,a⟩|⟨e,a⟩
  ·refine aB rfl e (aj (aa (vI 5) (ah ?_)))
   obtain rfl:=af a
   exact aC (aL [(vI 5)] ⟨rfl,trivial⟩)
  ·refine aA rfl e (ax (au (aj (aH Mq rfl 2 rfl wz (ay 0 0 il ft sz3 ag3 rfl rfl (vI c.Zone) rfl wz ?_)))))
   obtain ⟨u,m,a⟩:=bind_some a
   refine aF (bH m) rfl tT rfl rfl rfl rfl wz (ah ?_)
   rcases ak a with⟨f,a⟩|⟨f,a⟩
   ·refine aB rfl f (aj (aa (vI 1) (ah ?_)))
    obtain rfl:=af a
    exact aC (aL [(vI 1)] ⟨rfl,trivial⟩)
   ·refine aA rfl f (ax (aj (aH JK rfl 3 rfl wz (ay 0 0 il ft tV xn rfl rfl (vL eS c.Tags) rfl wz ?_))))
    obtain ⟨i,n,a⟩:=bind_some a
    refine aF (qz n) rfl hb77 rfl rfl rfl rfl wz (aa (vI i) (ah ?_))
    obtain rfl:=af a
    exact aC (aL [(vI i)] ⟨rfl,trivial⟩)
theorem iC {a:Int} {r:Bool} (c:dE a=some r) :
  FnM Tryz.prog 49 [(vI a)] [] (vB r) []:=by
 refine FnM.of_wH ⟨Tryz.prog,9,[],[]⟩ rfl Tryz.func49 rfl rfl (lb_ rfl) (by kernel_rfl) ?_
 unfold dE at c
 refine aj (aa (vB false) (ah (au ?_)))
 obtain ⟨e,b,c⟩:=bind_some c
 refine aP [(2,(vB e))] [] ?_ ?_
 ·refine av (aa (vI a) (aa (vB (decide (a>=0))) ?_))
  rcases ak b with⟨d,b⟩|⟨d,b⟩
  ·refine aD rfl d wz (aK (vI a) wa rfl (aK (vB (decide (a<345686400000))) wa rfl (aa (vB (decide (a<345686400000))) (aa (vB (decide (a<345686400000))) (ah ?_)))))
   obtain rfl:=af b
   exact cu
  ·refine aD rfl d wz (ae (ae (aa (vB false) (aa (vB false) (ah ?_)))))
   obtain rfl:=af b
   exact cu
 ·rintro ⟨⟩ _ i h f g
  refine aN _ f g ?_
  obtain rfl:=af c
  exact aC (aL [(vB e)] ⟨rfl,trivial⟩)
theorem wW {j:(List Entry)} {e:Player} {f:Int} {r:Int} (a:fA j e f=some r) :
  FnM Tryz.prog 28 [(vL Entry.enc j),(.d (.agg (Player.enc e))),(vI f)] [] (vI r) []:=by
 refine FnM.of_wH ⟨Tryz.prog,22,[],[]⟩ rfl Tryz.func28 rfl rfl (lb_ rfl) (by kernel_rfl) ?_
 unfold fA at a
 refine aj (dQ 0 (.inl rfl) (Player.v e) rfl rfl wz (λo=>aa (vI 0) (ah (au (aj (aa (vL Entry.enc j) ?_))))))
 obtain ⟨b,l,a⟩:=bind_some a
 refine aF (iW l) rfl hb22 rfl rfl rfl rfl wz (aa (vI b) (ah (aj (aa (vI b) (aa (vB (b != 0)) (ah ?_))))))
 rcases ak a with⟨i,a⟩|⟨i,a⟩
 ·refine aB rfl i (aj (aa (vI b) (aa (vI b) (ah ?_))))
  obtain rfl:=af a
  exact aC (aL [(vI b)] ⟨rfl,trivial⟩)
 ·refine aA rfl i (ax (au (aj (ay 0 0 il ft yM Bg rfl rfl (.d (.agg (Player.enc e))) rfl wz ?_))))
  obtain ⟨c,m,a⟩:=bind_some a
  refine aF (pq m) rfl hb48 rfl rfl rfl rfl wz (aa (vI c) (ah (aj (aa (vI c) (aa (vB (c != 0)) (ah ?_))))))
  rcases ak a with⟨g,a⟩|⟨g,a⟩
  ·refine aB rfl g (aj (aa (vI c) (aa (vI c) (ah ?_))))
   obtain rfl:=af a
   exact aC (aL [(vI c)] ⟨rfl,trivial⟩)
  ·refine aA rfl g (ax (au (aj (aa (vI f) ?_))))
   obtain ⟨n,k,a⟩:=bind_some a
   refine aF (iC k) rfl LJ rfl rfl rfl rfl wz (aa (vB (!n)) (ah ?_))
   rcases ak a with⟨h,a⟩|⟨h,a⟩
   ·refine aB rfl h (aj (aa (vI 1) (ah ?_)))
    obtain rfl:=af a
    exact aC (aL [(vI 1)] ⟨rfl,trivial⟩)
   ·refine aA rfl h (ax (aj (aa (vI 0) (ah ?_))))
    obtain rfl:=af a
    exact aC (aL [(vI 0)] ⟨rfl,trivial⟩)
theorem sZ {a:ByteArray} {r:Bool} (b:cmp_isNaN_string a=some r) :
  FnM Tryz.prog 149 [(vS a)] [] (vB r) []:=by
 refine FnM.of_wH ⟨Tryz.prog,6,[],[]⟩ rfl Tryz.func149 rfl rfl (lb_ rfl) (by kernel_rfl) ?_
 unfold cmp_isNaN_string at b
 refine aj (aa (vB false) (ah (aj (aa (vS a) (aa (vS a) (aa (vB (sNe a a)) (aa (vB (sNe a a)) (ah ?_))))))))
 obtain rfl:=af b
 exact aC (aL [(vB (sNe a a))] ⟨rfl,trivial⟩)
theorem BI {b:ByteArray} {c:ByteArray} {r:Bool} (d:cmp_Less_string b c=some r) :
  FnM Tryz.prog 117 [(vS b),(vS c)] [] (vB r) []:=by
 refine FnM.of_wH ⟨Tryz.prog,17,[],[]⟩ rfl Tryz.func117 rfl rfl (lb_ rfl) (by kernel_rfl) ?_
 unfold cmp_Less_string at d
 refine aj (aa (vB false) (ah (au ?_)))
 obtain ⟨h,a,d⟩:=bind_some d
 refine aP [(4,(vB h))] [] ?_ ?_
 ·refine av (aa (vS b) ?_)
  obtain ⟨n,k,a⟩:=bind_some a
  refine aF (sZ k) rfl hb149 rfl rfl rfl rfl wz ?_
  rcases ak a with⟨f,a⟩|⟨f,a⟩
  ·refine aD rfl f wz (aK (vS c) wa rfl ?_)
   obtain ⟨g,l,a⟩:=bind_some a
   refine aF (sZ l) rfl hb149 rfl rfl rfl rfl wa (aK (vB (!g)) wa rfl (aa (vB (!g)) ?_))
   rcases ak a with⟨e,a⟩|⟨e,a⟩
   ·refine aD rfl e wz (ae (ae (ae (aa (vB true) (aa (vB true) (ah ?_))))))
    obtain rfl:=af a
    exact cu
   ·refine aD rfl e wz (aK (vS b) wa rfl (aK (vS c) wa rfl (aK (vB (sLt b c)) wa rfl (aa (vB (sLt b c)) (aa (vB (sLt b c)) (ah ?_))))))
    obtain rfl:=af a
    exact cu
  ·refine aD rfl f wz (ae (ae (ae (aa (vB false) (aa (vB false) (aK (vS b) wa rfl (aK (vS c) wa rfl (aK (vB (sLt b c)) wa rfl (aa (vB (sLt b c)) (aa (vB (sLt b c)) (ah ?_)))))))))))
   obtain rfl:=af a
   exact cu
 ·rintro ⟨⟩ _ o m i j
  refine aN _ i j ?_
  obtain rfl:=af d
  exact aC (aL [(vB h)] ⟨rfl,trivial⟩)
theorem qb {a:ByteArray} {r:Bool} (b:slices_isNaN_string a=some r) :
  FnM Tryz.prog 150 [(vS a)] [] (vB r) []:=by
 refine FnM.of_wH ⟨Tryz.prog,6,[],[]⟩ rfl Tryz.func150 rfl rfl (lb_ rfl) (by kernel_rfl) ?_
 unfold slices_isNaN_string at b
 refine aj (aa (vB false) (ah (aj (aa (vS a) (aa (vS a) (aa (vB (sNe a a)) (aa (vB (sNe a a)) (ah ?_))))))))
 obtain rfl:=af b
 exact aC (aL [(vB (sNe a a))] ⟨rfl,trivial⟩)
end Go.Proofs.YtadpbmfnnlkdlabGreatDoor.Law

