/-
 The machine computes these plain functions (written by a program of ours).
-/
import Derived.Test.YtnjnggakgeommaaGreatDoorFacts
import Derived.Test.YtnjnggakgeommaaGreatDoorDefs
import Derived.Test.YtnjnggakgeommaaGreatDoorPf3
import Derived.Test.YtnjnggakgeommaaGreatDoorShelf
open Go Go.Eng Go.Proofs
namespace Go.Proofs.YtnjnggakgeommaaGreatDoor.Law
set_option maxRecDepth 100000
set_option linter.unusedVariables false
set_option maxHeartbeats 1000000
theorem nI {p_1:Player} {r:Int} (hF:fB p_1=some r) :
  FnM Tryz.prog 14 [(.d (.agg (Player.enc p_1)))] [] (vI r) []:=by
 refine FnM.of_wH ⟨Tryz.prog,19,[],[]⟩ rfl Tryz.func14 rfl rfl (lb_ rfl) (by kernel_rfl) ?_
 unfold fB at hF
 refine ah (aa (jm 0 (.inl rfl) [(vS p_1.Key),(vS p_1.Screen),(vI p_1.Zone),(vL eS p_1.Tags)] rfl rfl wz (λn_2=>ae (vI 0) wz rfl (ak (ah (ah ?_))))))
 obtain ⟨v_3,h_4,hF⟩:=bind_some hF
 refine aJ (β:=Unit) (λ_=>([(1,(.ref n_2 0 0)),(12,(vB v_3))]:SL_)) (λ_=>([(n_2,some (.cells 4 [(vS p_1.Key),(vS p_1.Screen),(vI p_1.Zone),(vL eS p_1.Tags)]))]:Hp)) (λ_=>True) ?_ ?_
 ·refine aa (aD FZ rfl 0 rfl wz (aB 0 0 il ft sz9 ag9 rfl rfl (vS p_1.Key) rfl wz ?_))
  obtain ⟨r_5,hr_6,h_4⟩:=bind_some h_4
  refine aF (kC hr_6) rfl Gs rfl rfl rfl rfl wz (ae (vB (!r_5)) wz rfl ?_)
  rcases au h_4 with⟨hc_7,h_4⟩|⟨hc_7,h_4⟩
  ·refine ax rfl hc_7 wz (af wa (af wa (af wa (af wa (ae (vB true) wz rfl (ak ?_))))))
   obtain rfl:=aj h_4
   exact cu
  ·refine ax rfl hc_7 wz (aD Fs rfl 1 rfl wa (aB 0 0 il ft sz9 ag9 rfl rfl (vS p_1.Screen) rfl wa ?_))
   obtain ⟨r_8,hr_9,h_4⟩:=bind_some h_4
   refine aF (kC hr_9) rfl Gs rfl rfl rfl rfl wa (ae (vB (!r_8)) wa rfl (ae (vB (!r_8)) wz rfl (ak ?_)))
   obtain rfl:=aj h_4
   exact cu
 ·rintro ⟨⟩ _ sl_ H_ hp_ hq_
  refine aZ _ hp_ hq_ ?_
  rcases au hF with⟨hc_10,hF⟩|⟨hc_10,hF⟩
  ·refine aG rfl hc_10 (ah (aa (ae (vI 5) wz rfl (ak ?_))))
   obtain rfl:=aj hF
   exact aA (bv (.inr rfl) [(vI 5)] ⟨rfl,trivial⟩ rfl rfl rfl)
  ·refine aC rfl hc_10 (ay (ah (ah (aa (aD EZ rfl 2 rfl wz (aB 0 0 il ft sz3 ag3 rfl rfl (vI p_1.Zone) rfl wz ?_))))))
   obtain ⟨r_11,hr_12,hF⟩:=bind_some hF
   refine aF (dC hr_12) rfl xN rfl rfl rfl rfl wz (ak ?_)
   rcases au hF with⟨hc_13,hF⟩|⟨hc_13,hF⟩
   ·refine aG rfl hc_13 (ah (aa (ae (vI 1) wz rfl (ak ?_))))
    obtain rfl:=aj hF
    exact aA (bv (.inr rfl) [(vI 1)] ⟨rfl,trivial⟩ rfl rfl rfl)
   ·refine aC rfl hc_13 (ay (ah (aa (aD Gj rfl 3 rfl wz (aB 0 0 il ft o6 sK rfl rfl (vL eS p_1.Tags) rfl wz ?_)))))
    obtain ⟨r_14,hr_15,hF⟩:=bind_some hF
    refine aF (kJ hr_15) rfl hb53 rfl rfl rfl rfl wz (ae (vI r_14) wz rfl (ak ?_))
    obtain rfl:=aj hF
    exact aA (bv (.inr rfl) [(vI r_14)] ⟨rfl,trivial⟩ rfl rfl rfl)
theorem rM {p_1:Player} {r:Int} (hF:iK p_1=some r) :
  FnM Tryz.prog 15 [(.d (.agg (Player.enc p_1)))] [] (vI r) []:=by
 refine FnM.of_wH ⟨Tryz.prog,22,[],[]⟩ rfl Tryz.func15 rfl rfl (lb_ rfl) (by kernel_rfl) ?_
 unfold iK at hF
 refine ah (aa (jm 0 (.inl rfl) [(vS p_1.Key),(vS p_1.Screen),(vI p_1.Zone),(vL eS p_1.Tags)] rfl rfl wz (λn_2=>ae (vI 0) wz rfl (ak (ah (aK (ah ?_)))))))
 obtain ⟨v_3,h_4,hF⟩:=bind_some hF
 refine aJ (β:=Unit) (λ_=>([(1,(.ref n_2 0 0)),(3,(vB v_3))]:SL_)) (λ_=>([(n_2,some (.cells 4 [(vS p_1.Key),(vS p_1.Screen),(vI p_1.Zone),(vL eS p_1.Tags)]))]:Hp)) (λ_=>True) ?_ ?_
 ·refine aa (aD FZ rfl 0 rfl wz (aB 0 0 il ft sz9 ag9 rfl rfl (vS p_1.Key) rfl wz ?_))
  obtain ⟨r_5,hr_6,h_4⟩:=bind_some h_4
  refine aF (mr hr_6) rfl FK rfl rfl rfl rfl wz (ae (vB (!r_5)) wz rfl ?_)
  rcases au h_4 with⟨hc_7,h_4⟩|⟨hc_7,h_4⟩
  ·refine ax rfl hc_7 wz (af wa (af wa (af wa (af wa (ae (vB true) wz rfl (ae (vB true) wz rfl (ak ?_)))))))
   obtain rfl:=aj h_4
   exact cu
  ·refine ax rfl hc_7 wz (aD Fs rfl 1 rfl wa (aB 0 0 il ft sz9 ag9 rfl rfl (vS p_1.Screen) rfl wa ?_))
   obtain ⟨r_8,hr_9,h_4⟩:=bind_some h_4
   refine aF (mr hr_9) rfl FK rfl rfl rfl rfl wa (ae (vB (!r_8)) wa rfl (ae (vB (!r_8)) wz rfl (ae (vB (!r_8)) wz rfl (ak ?_))))
   obtain rfl:=aj h_4
   exact cu
 ·rintro ⟨⟩ _ sl_ H_ hp_ hq_
  refine aZ _ hp_ hq_ ?_
  rcases au hF with⟨hc_10,hF⟩|⟨hc_10,hF⟩
  ·refine aG rfl hc_10 (ah (aa (ae (vI 5) wz rfl (ak ?_))))
   obtain rfl:=aj hF
   exact aA (bv (.inr rfl) [(vI 5)] ⟨rfl,trivial⟩ rfl rfl rfl)
  ·refine aC rfl hc_10 (ah (aa (aD EZ rfl 2 rfl wz (aB 0 0 il ft sz3 ag3 rfl rfl (vI p_1.Zone) rfl wz ?_))))
   obtain ⟨r_11,hr_12,hF⟩:=bind_some hF
   refine aF (iQ hr_12) rfl yf rfl rfl rfl rfl wz (ae (vB (!r_11)) wz rfl (ae (vB (!r_11)) wz rfl (ak ?_)))
   rcases au hF with⟨hc_13,hF⟩|⟨hc_13,hF⟩
   ·refine aG rfl hc_13 (ah (aa (ae (vI 1) wz rfl (ak ?_))))
    obtain rfl:=aj hF
    exact aA (bv (.inr rfl) [(vI 1)] ⟨rfl,trivial⟩ rfl rfl rfl)
   ·refine aC rfl hc_13 (ay (ah (aa (aD Gj rfl 3 rfl wz (aB 0 0 il ft o6 sK rfl rfl (vL eS p_1.Tags) rfl wz ?_)))))
    obtain ⟨r_14,hr_15,hF⟩:=bind_some hF
    refine aF (nN hr_15) rfl hb56 rfl rfl rfl rfl wz (ae (vI r_14) wz rfl (ak ?_))
    obtain rfl:=aj hF
    exact aA (bv (.inr rfl) [(vI r_14)] ⟨rfl,trivial⟩ rfl rfl rfl)
theorem BI {l_1:(List Int)} {r:Int} (hF:pG l_1=some r) :
  FnM Tryz.prog 16 [(vL eI l_1)] [] (vI r) []:=by
 refine FnM.of_wH ⟨Tryz.prog,15,[],[]⟩ rfl Tryz.func16 rfl rfl (lb_ rfl) (by kernel_rfl) ?_
 unfold pG at hF
 refine ah (aa (ae (vI 0) wz rfl (ak (ah (ah (aa (ae (vL eI l_1) wz rfl (dP un93 rfl wz (ae (vI 0) wz rfl (ak ?_))))))))))
 obtain ⟨o_10,hj_11,hF⟩:=bind_some hF
 obtain ⟨hn_6,hj_11⟩:=bJ hj_11
 refine aJ (β:=(Unit)) (λ(s_7:Unit)=>([]:SL_)) (λ(s_7:Unit)=>([]:Hp)) (λp=>o_10 = .go p) ?_ ?_
 ·refine aK (bX (β:=Nat×(List Int)×(Unit)) (λp=>(λ(k_2:Nat) (l_3:List Int) (s_7:Unit)=>([(5,(vL eI l_1)),(6,(vI (l_1.length:Int))),(7,(vI (k_2:Int)))]:SL_)) p.1 p.2.1 p.2.2) (λp=>(λ(k_2:Nat) (l_3:List Int) (s_7:Unit)=>([]:Hp)) p.1 p.2.1 p.2.2) (λp=>dR (λk x s=>mO k x s) p.2.1 p.1 p.2.2=some o_10/\(l_1).drop p.1=p.2.1) (λp=>p.2.1.length) (0,l_1,()) ⟨hj_11,rfl⟩ rfl (aN rfl) ?_)
  rintro ⟨k_2,l_3,s_7⟩ ⟨hL_9,hD_5⟩
  dsimp only at hL_9 hD_5
  cases l_3 with
  | nil =>
   obtain rfl:=aj hL_9
   refine ah (aa (ae (vB (decide ((k_2:Int)<(l_1.length:Int)))) wz rfl (ak ?_)))
   refine ah (aC rfl (drop_nil hD_5) (bT ?_))
   exact cB (s_7) rfl rfl (aN rfl)
  | cons x_4 l_3 =>
   obtain ⟨c_,hc_8,hL_9⟩:=bind_some hL_9
   refine ah (aa (ae (vB (decide ((k_2:Int)<(l_1.length:Int)))) wz rfl (ak ?_)))
   refine ah (aG rfl (dA hD_5) (ay ?_))
   unfold mO at hc_8
   refine ah (aK (ah (aa (iH es93 rfl rfl (dU hD_5) rfl wz (eO sz37 ag37 rfl (vI x_4) rfl wz (ae (vI x_4) wz rfl (ak (ah (aa (ae (vI x_4) wz rfl (ae (vB (x_4 != 0)) wz rfl (ak ?_))))))))))))
   rcases au hc_8 with⟨hc_12,hc_8⟩|⟨hc_12,hc_8⟩
   ·refine aG rfl hc_12 (ah (aa (ae (vI x_4) wz rfl (ae (vI x_4) wz rfl (ak ?_)))))
    obtain rfl:=aj hc_8
    obtain rfl:=aj hL_9
    obtain rfl:=aj hF
    exact aA (bv (.inr rfl) [(vI x_4)] ⟨rfl,trivial⟩ rfl rfl rfl)
   ·refine aC rfl hc_12 (ay (aa (gX (dD hD_5 hn_6) wz rfl (ae (vI ((k_2+1:Nat):Int)) wz rfl (ak ?_)))))
    obtain rfl:=aj hc_8
    exact bO (k_2+1,l_3,()) ⟨hL_9,bg hD_5⟩ (ls_ _) rfl (aN rfl)
 ·rintro s_7 ho_ sl_ H_ hp_ hq_
  subst ho_
  refine aZ _ hp_ hq_ (ah (aa (ae (vI 0) wz rfl (ak ?_))))
  obtain rfl:=aj hF
  exact aA (bv (.inr rfl) [(vI 0)] ⟨rfl,trivial⟩ rfl rfl rfl)
theorem rZ {o_1:Entry} {p_2:Entry} {r:Bool} (hF:jR o_1 p_2=some r) :
  FnM Tryz.prog 58 [(.d (.agg (Entry.enc o_1))),(.ref (av 0) 0 0)] [(.cells 13 [(vS p_2.Key),(vS p_2.Item),(vI p_2.Version),(vI p_2.First),(vI p_2.Last),(vI p_2.Every),(vI p_2.Days),(vL eI p_2.Except),(vI p_2.From),(vI p_2.To),(vI p_2.Prio),(vL eS p_2.Tags),(vB p_2.Gone)])] (vB r) [some (.cells 13 [(vS p_2.Key),(vS p_2.Item),(vI p_2.Version),(vI p_2.First),(vI p_2.Last),(vI p_2.Every),(vI p_2.Days),(vL eI p_2.Except),(vI p_2.From),(vI p_2.To),(vI p_2.Prio),(vL eS p_2.Tags),(vB p_2.Gone)])]:=by
 refine FnM.of_wH ⟨Tryz.prog,9,[],[]⟩ rfl Tryz.func58 rfl rfl (lb_ rfl) (by kernel_rfl) ?_
 unfold jR at hF
 refine ah (aa (jm 0 (.inl rfl) [(vS o_1.Key),(vS o_1.Item),(vI o_1.Version),(vI o_1.First),(vI o_1.Last),(vI o_1.Every),(vI o_1.Days),(vL eI o_1.Except),(vI o_1.From),(vI o_1.To),(vI o_1.Prio),(vL eS o_1.Tags),(vB o_1.Gone)] rfl rfl wz (λn_3=>ae (vB false) wz rfl (ak (ah (aa (aD jd rfl 0 rfl wz (aB 0 1 il ft sz9 ag9 rfl rfl (vS o_1.Key) rfl wz (aD jd rfl 0 rfl wz (aB 0 0 il ft sz9 ag9 rfl rfl (vS p_2.Key) rfl wz (ae (vB (sEq o_1.Key p_2.Key)) wz rfl (ae (vB (sEq o_1.Key p_2.Key)) wz rfl (ak ?_)))))))))))))
 obtain rfl:=aj hF
 exact aA (uD (.inr rfl) [(vB (sEq o_1.Key p_2.Key))] _ [0] [av 0] ⟨rfl,trivial⟩ (.cons (iw rfl rfl) (.nil)) (by kernel_rfl) ⟨(by kernel_rfl),trivial⟩ (by decide) (by kernel_rfl))
theorem iC {s_1:(List Entry)} {f2_3:Entry} {r:Int} (hF:bn s_1 f2_3=some r) :
  FnM Tryz.prog 57 [(dV (av 1) 13 s_1),(.fn 58 [(.ref (av 0) 0 0)])] (([(.cells 13 [(vS f2_3.Key),(vS f2_3.Item),(vI f2_3.Version),(vI f2_3.First),(vI f2_3.Last),(vI f2_3.Every),(vI f2_3.Days),(vL eI f2_3.Except),(vI f2_3.From),(vI f2_3.To),(vI f2_3.Prio),(vL eS f2_3.Tags),(vB f2_3.Gone)])]:List Box)++gI 13 Entry.enc s_1) (vI r) (([(.cells 13 [(vS f2_3.Key),(vS f2_3.Item),(vI f2_3.Version),(vI f2_3.First),(vI f2_3.Last),(vI f2_3.Every),(vI f2_3.Days),(vL eI f2_3.Except),(vI f2_3.From),(vI f2_3.To),(vI f2_3.Prio),(vL eS f2_3.Tags),(vB f2_3.Gone)])]:List Box).map some++gT s_1 (gB 13 Entry.enc s_1)):=by
 refine FnM.of_wHv ⟨Tryz.prog,19,[],[]⟩ rfl Tryz.func57 rfl rfl (lb_ rfl) (by kernel_rfl) ?_
 unfold bn at hF
 refine ah (aa (ae (vI 0) wz rfl (ak (ah (ah (aa (ae (dV (av 1) 13 s_1) wz rfl (FC nY rfl wz (ae (vI 0) wz rfl (ak ?_))))))))))
 obtain ⟨o_12,hj_13,hF⟩:=bind_some hF
 obtain ⟨hn_8,hj_13⟩:=bJ hj_13
 refine aJ (β:=(Unit)) (λ(s_9:Unit)=>([]:SL_)) (λ(s_9:Unit)=>([((av 0),some (.cells 13 [(vS f2_3.Key),(vS f2_3.Item),(vI f2_3.Version),(vI f2_3.First),(vI f2_3.Last),(vI f2_3.Every),(vI f2_3.Days),(vL eI f2_3.Except),(vI f2_3.From),(vI f2_3.To),(vI f2_3.Prio),(vL eS f2_3.Tags),(vB f2_3.Gone)])),((av 1),gB 13 Entry.enc s_1)]:Hp)) (λp=>o_12 = .go p) ?_ ?_
 ·refine aK (bX (β:=Nat×(List Nat)×(Unit)) (λp=>(λ(k_4:Nat) (l_5:List Nat) (s_9:Unit)=>([(0,(dV (av 1) 13 s_1)),(1,(.fn 58 [(.ref (av 0) 0 0)])),(7,(vI (s_1.length:Int))),(8,(vI (k_4:Int)))]:SL_)) p.1 p.2.1 p.2.2) (λp=>(λ(k_4:Nat) (l_5:List Nat) (s_9:Unit)=>([((av 0),some (.cells 13 [(vS f2_3.Key),(vS f2_3.Item),(vI f2_3.Version),(vI f2_3.First),(vI f2_3.Last),(vI f2_3.Every),(vI f2_3.Days),(vL eI f2_3.Except),(vI f2_3.From),(vI f2_3.To),(vI f2_3.Prio),(vL eS f2_3.Tags),(vB f2_3.Gone)])),((av 1),gB 13 Entry.enc s_1)]:Hp)) p.1 p.2.1 p.2.2) (λp=>dR (λk x s=>aV s_1 f2_3 k x s) p.2.1 p.1 p.2.2=some o_12/\((List.range ((s_1.length:Int)).toNat)).drop p.1=p.2.1) (λp=>p.2.1.length) (0,(List.range ((s_1.length:Int)).toNat),()) ⟨hj_13,rfl⟩ rfl (aN rfl) ?_)
  rintro ⟨k_4,l_5,s_9⟩ ⟨hL_11,hD_7⟩
  dsimp only at hL_11 hD_7
  cases l_5 with
  | nil =>
   obtain rfl:=aj hL_11
   refine ah (aa (ae (vB (decide ((k_4:Int)<(s_1.length:Int)))) wz rfl (ak ?_)))
   refine ah (aC rfl (nO hD_7) (bT ?_))
   exact cB (s_9) rfl rfl (aN rfl)
  | cons x_6 l_5 =>
   obtain ⟨c_,hc_10,hL_11⟩:=bind_some hL_11
   refine ah (aa (ae (vB (decide ((k_4:Int)<(s_1.length:Int)))) wz rfl (ak ?_)))
   refine ah (aG rfl (l6 hD_7) (ay ?_))
   unfold aV at hc_10
   refine ah (aK (ah (aa (ae (vI (k_4:Int)) wz rfl (ae (vI (k_4:Int)) wz rfl (ak (ah (aa (ae (.fn 58 [(.ref (av 0) 0 0)]) wz rfl (ae (dV (av 1) 13 s_1) wz rfl (ae (vI (k_4:Int)) wz rfl ?_)))))))))))
   obtain ⟨_,hi_14,hc_10⟩:=bind_some hc_10
   refine rH lg rfl rfl (lG hi_14) (jJ hi_14) wz ?_
   obtain ⟨e_15,hy_16,hc_10⟩:=bind_some hc_10
   refine mf 0 1 il ft fu jK rfl rfl hy_16 (.d (.agg (Entry.enc e_15))) rfl wz ?_
   obtain ⟨r_17,hr_18,hc_10⟩:=bind_some hc_10
   refine aY 0 [0] il ft (rZ hr_18) rfl hb58 rfl (by kernel_rfl) (by kernel_rfl) (by kernel_rfl) (by kernel_rfl) (by kernel_rfl) (by kernel_rfl) (by kernel_rfl) (by decide) (by kernel_rfl) wz (vB r_17) (by kernel_rfl) ([((av 0),some (.cells 13 [(vS f2_3.Key),(vS f2_3.Item),(vI f2_3.Version),(vI f2_3.First),(vI f2_3.Last),(vI f2_3.Every),(vI f2_3.Days),(vL eI f2_3.Except),(vI f2_3.From),(vI f2_3.To),(vI f2_3.Prio),(vL eS f2_3.Tags),(vB f2_3.Gone)])),((av 1),gB 13 Entry.enc s_1)]:Hp) (by kernel_rfl) (ak ?_)
   rcases au hc_10 with⟨hc_20,hc_10⟩|⟨hc_20,hc_10⟩
   ·refine aG rfl hc_20 (ah (aa (ae (vI (k_4:Int)) wz rfl (ae (vI (k_4:Int)) wz rfl (ak ?_)))))
    obtain rfl:=aj hc_10
    obtain rfl:=aj hL_11
    obtain rfl:=aj hF
    exact aA (Ez (bs:=([(.cells 13 [(vS f2_3.Key),(vS f2_3.Item),(vI f2_3.Version),(vI f2_3.First),(vI f2_3.Last),(vI f2_3.Every),(vI f2_3.Days),(vL eI f2_3.Except),(vI f2_3.From),(vI f2_3.To),(vI f2_3.Prio),(vL eS f2_3.Tags),(vB f2_3.Gone)])]:List Box)) (os:=([(.cells 13 [(vS f2_3.Key),(vS f2_3.Item),(vI f2_3.Version),(vI f2_3.First),(vI f2_3.Last),(vI f2_3.Every),(vI f2_3.Days),(vL eI f2_3.Except),(vI f2_3.From),(vI f2_3.To),(vI f2_3.Prio),(vL eS f2_3.Tags),(vB f2_3.Gone)])]:List Box)) (xs:=s_1) (o:=gB 13 Entry.enc s_1) (.inr rfl) [(vI (k_4:Int))] ⟨rfl,trivial⟩ rfl rfl rfl rfl rfl (by kernel_rfl) qP rfl)
   ·refine aC rfl hc_20 (ay (aa (gX (nP hD_7 hn_8) wz rfl (ae (vI ((k_4+1:Nat):Int)) wz rfl (ak ?_)))))
    obtain rfl:=aj hc_10
    exact bO (k_4+1,l_5,()) ⟨hL_11,bg hD_7⟩ (ls_ _) rfl (aN rfl)
 ·rintro s_9 ho_ sl_ H_ hp_ hq_
  subst ho_
  refine aZ _ hp_ hq_ (ah (aa (ae (vI (-1)) wz rfl (ak ?_))))
  obtain rfl:=aj hF
  exact aA (Ez (bs:=([(.cells 13 [(vS f2_3.Key),(vS f2_3.Item),(vI f2_3.Version),(vI f2_3.First),(vI f2_3.Last),(vI f2_3.Every),(vI f2_3.Days),(vL eI f2_3.Except),(vI f2_3.From),(vI f2_3.To),(vI f2_3.Prio),(vL eS f2_3.Tags),(vB f2_3.Gone)])]:List Box)) (os:=([(.cells 13 [(vS f2_3.Key),(vS f2_3.Item),(vI f2_3.Version),(vI f2_3.First),(vI f2_3.Last),(vI f2_3.Every),(vI f2_3.Days),(vL eI f2_3.Except),(vI f2_3.From),(vI f2_3.To),(vI f2_3.Prio),(vL eS f2_3.Tags),(vB f2_3.Gone)])]:List Box)) (xs:=s_1) (o:=gB 13 Entry.enc s_1) (.inr rfl) [(vI (-1))] ⟨rfl,trivial⟩ rfl rfl rfl rfl rfl (by kernel_rfl) qP rfl)
theorem pu {x0:Int} {r:ByteArray} (hF:strconv_Itoa x0=some r) :
  FnM Tryz.prog 75 [(vI x0)] [] (vS r) [] :=
 itoa_ok Tryz.strconv_Itoa CV hF
theorem lq {x0:(List ByteArray)} {x1:ByteArray} {r:ByteArray} (hF:strings_Join x0 x1=some r) :
  FnM Tryz.prog 98 [(vL eS x0),(vS x1)] [] (vS r) [] :=
 join_ok rfl Tryz.strings_Join_none Tryz.strings_Join hF
theorem xu {l_1:(List Int)} {r:ByteArray} (hF:kW l_1=some r) :
  FnM Tryz.prog 99 [(vL eI l_1)] [] (vS r) []:=by
 refine FnM.of_wH ⟨Tryz.prog,20,[],[]⟩ rfl Tryz.func99 rfl rfl (lb_ rfl) (by kernel_rfl) ?_
 unfold kW at hF
 refine ah (aa (ae (vS (⟨#[]⟩:ByteArray)) wz rfl (ak (ah (aa (ae .nil wz rfl (ak (ah (ah (aa (ae (vL eI l_1) wz rfl (dP qj rfl wz (ae (vI 0) wz rfl (ak (nu (λn_8 => ?_))))))))))))))))
 obtain ⟨o_13,hj_14,hF⟩:=bind_some hF
 obtain ⟨hn_6,hj_14⟩:=bJ hj_14
 refine aJ (β:=((List ByteArray))×Nm) (λp=>(λ(s_7:List ByteArray) (n_10:Nm)=>([(3,(gV n_10 1 s_7))]:SL_)) p.1 p.2) (λp=>(λ(s_7:List ByteArray) (n_10:Nm)=>([(n_10,gB 1 eS s_7)]:Hp)) p.1 p.2) (λp=>o_13 = .go p.1) ?_ ?_
 ·refine aK (bX (β:=Nat×(List Int)×((List ByteArray))×Nm) (λp=>(λ(k_2:Nat) (l_3:List Int) (s_7:List ByteArray) (n_10:Nm)=>([(3,(gV n_10 1 s_7)),(6,(vL eI l_1)),(7,(vI (l_1.length:Int))),(8,(vI (k_2:Int)))]:SL_)) p.1 p.2.1 p.2.2.1 p.2.2.2) (λp=>(λ(k_2:Nat) (l_3:List Int) (s_7:List ByteArray) (n_10:Nm)=>([(n_10,gB 1 eS s_7)]:Hp)) p.1 p.2.1 p.2.2.1 p.2.2.2) (λp=>dR (λk x s=>gZ k x s) p.2.1 p.1 p.2.2.1=some o_13/\(l_1).drop p.1=p.2.1) (λp=>p.2.1.length) (0,l_1,([]:List ByteArray),n_8) ⟨hj_14,rfl⟩ rfl (aN rfl) ?_)
  rintro ⟨k_2,l_3,s_7,n_10⟩ ⟨hL_12,hD_5⟩
  dsimp only at hL_12 hD_5
  cases l_3 with
  | nil =>
   obtain rfl:=aj hL_12
   refine ah (aa (ae (vB (decide ((k_2:Int)<(l_1.length:Int)))) wz rfl (ak ?_)))
   refine ah (aC rfl (drop_nil hD_5) (bT ?_))
   exact cB (s_7,n_10) rfl rfl (aN rfl)
  | cons x_4 l_3 =>
   obtain ⟨c_,hc_11,hL_12⟩:=bind_some hL_12
   refine ah (aa (ae (vB (decide ((k_2:Int)<(l_1.length:Int)))) wz rfl (ak ?_)))
   refine ah (aG rfl (dA hD_5) (ay ?_))
   unfold gZ at hc_11
   refine ah (aK (ah (aa (iH kw rfl rfl (dU hD_5) rfl wz (eO sz3 ag3 rfl (vI x_4) rfl wz (ae (vI x_4) wz rfl (ak (aa (ae (gV n_10 1 s_7) wz rfl (ae (vI x_4) wz rfl ?_))))))))))
   obtain ⟨r_15,hr_16,hc_11⟩:=bind_some hc_11
   refine aF (pu hr_16) rfl hb75 rfl rfl rfl rfl wz (dY (([r_15]:List ByteArray).map eS) kv pg rfl rfl rfl rfl rfl wz ?_)
   obtain ⟨a_17,hz_18,hc_11⟩:=bind_some hc_11
   refine mY 0 il ft (i:=0) AC AC sz9 z9 rfl (by decide) by9 (by decide) (λ_=>rfl) rfl rfl rfl hz_18 wz (λn_19=>ae (gV n_19 1 a_17) wz rfl (ak (aa (gX (dD hD_5 hn_6) wz rfl (ae (vI ((k_2+1:Nat):Int)) wz rfl (ak ?_))))))
   obtain rfl:=aj hc_11
   exact bO (k_2+1,l_3,a_17,n_19) ⟨hL_12,bg hD_5⟩ (ls_ _) rfl (aN rfl)
 ·rintro ⟨s_7,n_10⟩ ho_ sl_ H_ hp_ hq_
  subst ho_
  refine aZ _ hp_ hq_ (ah (gW 0 rfl (gu 3 0 rfl rfl (aa (ae (vL eS s_7) wz rfl ?_)))))
  obtain ⟨r_20,hr_21,hF⟩:=bind_some hF
  refine aF (lq hr_21) rfl hb98 rfl rfl rfl rfl wz (ae (vS r_20) wz rfl (ak ?_))
  obtain rfl:=aj hF
  exact aA (bv (.inr rfl) [(vS r_20)] ⟨rfl,trivial⟩ rfl rfl rfl)
theorem qV {l_1:(List ByteArray)} {r:ByteArray} (hF:lX l_1=some r) :
  FnM Tryz.prog 100 [(vL eS l_1)] [] (vS r) []:=by
 refine FnM.of_wH ⟨Tryz.prog,8,[],[]⟩ rfl Tryz.func100 rfl rfl (lb_ rfl) (by kernel_rfl) ?_
 unfold lX at hF
 refine ah (aa (ae (vS (⟨#[]⟩:ByteArray)) wz rfl (ak (ah (ah (aa (ae (vL eS l_1) wz rfl (dP uN rfl wz (ae (vB ((l_1.length:Int)==0)) wz rfl (ak ?_))))))))))
 rcases au hF with⟨hc_2,hF⟩|⟨hc_2,hF⟩
 ·refine aG rfl hc_2 (ah (aa (ae (vS (⟨#[45]⟩:ByteArray)) wz rfl (ak ?_))))
  obtain rfl:=aj hF
  exact aA (bv (.inr rfl) [(vS (⟨#[45]⟩:ByteArray))] ⟨rfl,trivial⟩ rfl rfl rfl)
 ·refine aC rfl hc_2 (ay (ah (aa (ae (vL eS l_1) wz rfl ?_))))
  obtain ⟨r_3,hr_4,hF⟩:=bind_some hF
  refine aF (lq hr_4) rfl hb98 rfl rfl rfl rfl wz (ae (vS r_3) wz rfl (ak ?_))
  obtain rfl:=aj hF
  exact aA (bv (.inr rfl) [(vS r_3)] ⟨rfl,trivial⟩ rfl rfl rfl)
theorem nK {e_1:Entry} {r:ByteArray} (hF:iR e_1=some r) :
  FnM Tryz.prog 62 [(.d (.agg (Entry.enc e_1)))] [] (vS r) []:=by
 refine FnM.of_wH ⟨Tryz.prog,52,[],[]⟩ rfl Tryz.func62 rfl rfl (lb_ rfl) (by kernel_rfl) ?_
 unfold iR at hF
 refine ah (aa (jm 0 (.inl rfl) [(vS e_1.Key),(vS e_1.Item),(vI e_1.Version),(vI e_1.First),(vI e_1.Last),(vI e_1.Every),(vI e_1.Days),(vL eI e_1.Except),(vI e_1.From),(vI e_1.To),(vI e_1.Prio),(vL eS e_1.Tags),(vB e_1.Gone)] rfl rfl wz (λn_2=>ae (vS (⟨#[]⟩:ByteArray)) wz rfl (ak (ah (aa (ae .nil wz rfl (ak (ah (ah (aa (aD iU rfl 7 rfl wz (aB 0 0 il ft mK pV rfl rfl (vL eI e_1.Except) rfl wz (dP qj rfl wz (ae (vI 0) wz rfl (ak (nu (λn_9 => ?_))))))))))))))))))
 obtain ⟨o_14,hj_15,hF⟩:=bind_some hF
 obtain ⟨hn_7,hj_15⟩:=bJ hj_15
 refine aJ (β:=((List ByteArray))×Nm) (λp=>(λ(s_8:List ByteArray) (n_11:Nm)=>([(1,(.ref n_2 0 0)),(3,(gV n_11 1 s_8))]:SL_)) p.1 p.2) (λp=>(λ(s_8:List ByteArray) (n_11:Nm)=>([(n_2,some (.cells 13 [(vS e_1.Key),(vS e_1.Item),(vI e_1.Version),(vI e_1.First),(vI e_1.Last),(vI e_1.Every),(vI e_1.Days),(vL eI e_1.Except),(vI e_1.From),(vI e_1.To),(vI e_1.Prio),(vL eS e_1.Tags),(vB e_1.Gone)])),(n_11,gB 1 eS s_8)]:Hp)) p.1 p.2) (λp=>o_14 = .go p.1) ?_ ?_
 ·refine aK (bX (β:=Nat×(List Int)×((List ByteArray))×Nm) (λp=>(λ(k_3:Nat) (l_4:List Int) (s_8:List ByteArray) (n_11:Nm)=>([(1,(.ref n_2 0 0)),(3,(gV n_11 1 s_8)),(8,(vL eI e_1.Except)),(9,(vI (e_1.Except.length:Int))),(10,(vI (k_3:Int)))]:SL_)) p.1 p.2.1 p.2.2.1 p.2.2.2) (λp=>(λ(k_3:Nat) (l_4:List Int) (s_8:List ByteArray) (n_11:Nm)=>([(n_2,some (.cells 13 [(vS e_1.Key),(vS e_1.Item),(vI e_1.Version),(vI e_1.First),(vI e_1.Last),(vI e_1.Every),(vI e_1.Days),(vL eI e_1.Except),(vI e_1.From),(vI e_1.To),(vI e_1.Prio),(vL eS e_1.Tags),(vB e_1.Gone)])),(n_11,gB 1 eS s_8)]:Hp)) p.1 p.2.1 p.2.2.1 p.2.2.2) (λp=>dR (λk x s=>jy k x s) p.2.1 p.1 p.2.2.1=some o_14/\(e_1.Except).drop p.1=p.2.1) (λp=>p.2.1.length) (0,e_1.Except,([]:List ByteArray),n_9) ⟨hj_15,rfl⟩ rfl (aN rfl) ?_)
  rintro ⟨k_3,l_4,s_8,n_11⟩ ⟨hL_13,hD_6⟩
  dsimp only at hL_13 hD_6
  cases l_4 with
  | nil =>
   obtain rfl:=aj hL_13
   refine ah (aa (ae (vB (decide ((k_3:Int)<(e_1.Except.length:Int)))) wz rfl (ak ?_)))
   refine ah (aC rfl (drop_nil hD_6) (bT ?_))
   exact cB (s_8,n_11) rfl rfl (aN rfl)
  | cons x_5 l_4 =>
   obtain ⟨c_,hc_12,hL_13⟩:=bind_some hL_13
   refine ah (aa (ae (vB (decide ((k_3:Int)<(e_1.Except.length:Int)))) wz rfl (ak ?_)))
   refine ah (aG rfl (dA hD_6) (ay ?_))
   unfold jy at hc_12
   refine ah (aK (ah (aa (iH kw rfl rfl (dU hD_6) rfl wz (eO sz3 ag3 rfl (vI x_5) rfl wz (ae (vI x_5) wz rfl (ak (aa (ae (gV n_11 1 s_8) wz rfl (ae (vI x_5) wz rfl ?_))))))))))
   obtain ⟨r_16,hr_17,hc_12⟩:=bind_some hc_12
   refine aF (pu hr_17) rfl hb75 rfl rfl rfl rfl wz (dY (([r_16]:List ByteArray).map eS) kv pg rfl rfl rfl rfl rfl wz ?_)
   obtain ⟨a_18,hz_19,hc_12⟩:=bind_some hc_12
   refine mY 0 il ft (i:=1) AC AC sz9 z9 rfl (by decide) by9 (by decide) (λ_=>rfl) rfl rfl rfl hz_19 wz (λn_20=>ae (gV n_20 1 a_18) wz rfl (ak (aa (gX (dD hD_6 hn_7) wz rfl (ae (vI ((k_3+1:Nat):Int)) wz rfl (ak ?_))))))
   obtain rfl:=aj hc_12
   exact bO (k_3+1,l_4,a_18,n_20) ⟨hL_13,bg hD_6⟩ (ls_ _) rfl (aN rfl)
 ·rintro ⟨s_8,n_11⟩ ho_ sl_ H_ hp_ hq_
  subst ho_
  refine aZ _ hp_ hq_ (ah (aa (ae (vS (⟨#[111,110]⟩:ByteArray)) wz rfl (ak (ah (ah (aa (aD tu rfl 12 rfl wz (aB 0 0 il ft sz4 ag4 rfl rfl (vB e_1.Gone) rfl wz (ak ?_))))))))))
  obtain ⟨v_21,h_22,hF⟩:=bind_some hF
  refine aJ (β:=Unit) (λ_=>([(1,(.ref n_2 0 0)),(3,(gV n_11 1 s_8)),(6,(vS v_21))]:SL_)) (λ_=>([(n_2,some (.cells 13 [(vS e_1.Key),(vS e_1.Item),(vI e_1.Version),(vI e_1.First),(vI e_1.Last),(vI e_1.Every),(vI e_1.Days),(vL eI e_1.Except),(vI e_1.From),(vI e_1.To),(vI e_1.Prio),(vL eS e_1.Tags),(vB e_1.Gone)])),(n_11,gB 1 eS s_8)]:Hp)) (λ_=>True) ?_ ?_
  ·rcases au h_22 with⟨hc_23,h_22⟩|⟨hc_23,h_22⟩
   ·refine aG rfl hc_23 (aa (ae (vS (⟨#[103,111,110,101]⟩:ByteArray)) wz rfl (ak ?_)))
    obtain rfl:=aj h_22
    exact cu
   ·refine aC rfl hc_23 (ay ?_)
    obtain rfl:=aj h_22
    exact cu
  ·rintro ⟨⟩ _ sl_ H_ hp_ hq_
   refine aZ _ hp_ hq_ (ah (gW 1 rfl (gu 3 1 rfl rfl (fC (aD jd rfl 0 rfl wz (aB 1 0 (.inr (by kernel_rfl)) (λ_ _ ag=>trivial) sz9 ag9 rfl rfl (vS e_1.Key) rfl wz (aD ut rfl 1 rfl wz (aB 3 0 (.inr (by kernel_rfl)) (λ_ _ ag=>⟨.inl ⟨rfl,rfl⟩,trivial⟩) sz9 ag9 rfl rfl (vS e_1.Item) rfl wz (aD kz rfl 2 rfl wz (aB 5 0 (.inr (by kernel_rfl)) (λ_ _ ag=>⟨.inl ⟨rfl,rfl⟩,⟨.inl ⟨rfl,rfl⟩,trivial⟩⟩) sz3 ag3 rfl rfl (vI e_1.Version) rfl wz (aD mZ rfl 3 rfl wz (aB 7 0 (.inr (by kernel_rfl)) (λ_ _ ag=>⟨.inl ⟨rfl,rfl⟩,⟨.inl ⟨rfl,rfl⟩,⟨.inl ⟨rfl,rfl⟩,trivial⟩⟩⟩) sz3 ag3 rfl rfl (vI e_1.First) rfl wz (aD lZ rfl 4 rfl wz (aB 9 0 (.inr (by kernel_rfl)) (λ_ _ ag=>⟨.inl ⟨rfl,rfl⟩,⟨.inl ⟨rfl,rfl⟩,⟨.inl ⟨rfl,rfl⟩,⟨.inl ⟨rfl,rfl⟩,trivial⟩⟩⟩⟩) sz3 ag3 rfl rfl (vI e_1.Last) rfl wz (aD rE rfl 5 rfl wz (aB 11 0 (.inr (by kernel_rfl)) (λ_ _ ag=>⟨.inl ⟨rfl,rfl⟩,⟨.inl ⟨rfl,rfl⟩,⟨.inl ⟨rfl,rfl⟩,⟨.inl ⟨rfl,rfl⟩,⟨.inl ⟨rfl,rfl⟩,trivial⟩⟩⟩⟩⟩) sz3 ag3 rfl rfl (vI e_1.Every) rfl wz (aD rR rfl 6 rfl wz (aB 13 0 (.inr (by kernel_rfl)) (λ_ _ ag=>⟨.inl ⟨rfl,rfl⟩,⟨.inl ⟨rfl,rfl⟩,⟨.inl ⟨rfl,rfl⟩,⟨.inl ⟨rfl,rfl⟩,⟨.inl ⟨rfl,rfl⟩,⟨.inl ⟨rfl,rfl⟩,trivial⟩⟩⟩⟩⟩⟩) sz3 ag3 rfl rfl (vI e_1.Days) rfl wz (aD pQ rfl 8 rfl wz (aB 15 0 (.inr (by kernel_rfl)) (λ_ _ ag=>⟨.inl ⟨rfl,rfl⟩,⟨.inl ⟨rfl,rfl⟩,⟨.inl ⟨rfl,rfl⟩,⟨.inl ⟨rfl,rfl⟩,⟨.inl ⟨rfl,rfl⟩,⟨.inl ⟨rfl,rfl⟩,⟨.inl ⟨rfl,rfl⟩,trivial⟩⟩⟩⟩⟩⟩⟩) sz3 ag3 rfl rfl (vI e_1.From) rfl wz (aD rA rfl 9 rfl wz (aB 17 0 (.inr (by kernel_rfl)) (λ_ _ ag=>⟨.inl ⟨rfl,rfl⟩,⟨.inl ⟨rfl,rfl⟩,⟨.inl ⟨rfl,rfl⟩,⟨.inl ⟨rfl,rfl⟩,⟨.inl ⟨rfl,rfl⟩,⟨.inl ⟨rfl,rfl⟩,⟨.inl ⟨rfl,rfl⟩,⟨.inl ⟨rfl,rfl⟩,trivial⟩⟩⟩⟩⟩⟩⟩⟩) sz3 ag3 rfl rfl (vI e_1.To) rfl wz (aD qI rfl 10 rfl wz ?_)))))))))))))))))))))))
   refine aB 19 0 (.inr (by kernel_rfl)) (λ_ _ ag=>⟨.inl ⟨rfl,rfl⟩,⟨.inl ⟨rfl,rfl⟩,⟨.inl ⟨rfl,rfl⟩,⟨.inl ⟨rfl,rfl⟩,⟨.inl ⟨rfl,rfl⟩,⟨.inl ⟨rfl,rfl⟩,⟨.inl ⟨rfl,rfl⟩,⟨.inl ⟨rfl,rfl⟩,⟨.inl ⟨rfl,rfl⟩,trivial⟩⟩⟩⟩⟩⟩⟩⟩⟩) sz3 ag3 rfl rfl (vI e_1.Prio) rfl wz (dY (([e_1.Version,e_1.First,e_1.Last,e_1.Every,e_1.Days,e_1.From,e_1.To,e_1.Prio]:List Int).map eI) kw rJ rfl rfl rfl rfl rfl wz ?_)
   obtain ⟨r_24,hr_25,hF⟩:=bind_some hF
   refine aF (xu hr_25) rfl hb99 rfl rfl rfl rfl wz (ae (vS v_21) wz rfl (ae (vL eS s_8) wz rfl ?_))
   obtain ⟨r_26,hr_27,hF⟩:=bind_some hF
   refine aF (qV hr_27) rfl hb100 rfl rfl rfl rfl wz (aD iW rfl 11 rfl wz (aB 26 0 (.inr (by kernel_rfl)) (λ_ _ ag=>⟨.inl ⟨rfl,rfl⟩,⟨.inl ⟨rfl,rfl⟩,⟨.inl ⟨rfl,rfl⟩,⟨.inl ⟨rfl,rfl⟩,⟨.inl ⟨rfl,rfl⟩,⟨.inl ⟨rfl,rfl⟩,⟨.inl ⟨rfl,rfl⟩,⟨.inl ⟨rfl,rfl⟩,⟨.inl ⟨rfl,rfl⟩,⟨.inl ⟨rfl,rfl⟩,trivial⟩⟩⟩⟩⟩⟩⟩⟩⟩⟩) o6 sK rfl rfl (vL eS e_1.Tags) rfl wz ?_))
   obtain ⟨r_28,hr_29,hF⟩:=bind_some hF
   refine aF (qV hr_29) rfl hb100 rfl rfl rfl rfl wz (dY (([e_1.Key,e_1.Item,r_24,v_21,r_26,r_28]:List ByteArray).map eS) kv pg rfl rfl rfl rfl rfl wz ?_)
   obtain ⟨r_30,hr_31,hF⟩:=bind_some hF
   refine aF (lq hr_31) rfl hb98 rfl rfl rfl rfl wz (ae (vS r_30) wz rfl (ak (aZ (H0:=([(n_2,some (.cells 13 [(vS e_1.Key),(vS e_1.Item),(vI e_1.Version),(vI e_1.First),(vI e_1.Last),(vI e_1.Every),(vI e_1.Days),(vL eI e_1.Except),(vI e_1.From),(vI e_1.To),(vI e_1.Prio),(vL eS e_1.Tags),(vB e_1.Gone)])),(n_11,gF 1 eS s_8)]:Hp)) ([(2,(vS r_30))]:SL_) (by kernel_rfl) (CW (by kernel_rfl)) ?_)))
   obtain rfl:=aj hF
   exact aA (bv (.inr rfl) [(vS r_30)] ⟨rfl,trivial⟩ rfl rfl rfl)
theorem nH {a_1:Entry} {b_2:Entry} {r:Bool} (hF:iM a_1 b_2=some r) :
  FnM Tryz.prog 19 [(.d (.agg (Entry.enc a_1))),(.d (.agg (Entry.enc b_2)))] [] (vB r) []:=by
 refine FnM.of_wH ⟨Tryz.prog,32,[],[]⟩ rfl Tryz.func19 rfl rfl (lb_ rfl) (by kernel_rfl) ?_
 unfold iM at hF
 refine ah (aa (jm 0 (.inl rfl) [(vS a_1.Key),(vS a_1.Item),(vI a_1.Version),(vI a_1.First),(vI a_1.Last),(vI a_1.Every),(vI a_1.Days),(vL eI a_1.Except),(vI a_1.From),(vI a_1.To),(vI a_1.Prio),(vL eS a_1.Tags),(vB a_1.Gone)] rfl rfl wz (λn_3=>jm 0 (.inl rfl) [(vS b_2.Key),(vS b_2.Item),(vI b_2.Version),(vI b_2.First),(vI b_2.Last),(vI b_2.Every),(vI b_2.Days),(vL eI b_2.Except),(vI b_2.From),(vI b_2.To),(vI b_2.Prio),(vL eS b_2.Tags),(vB b_2.Gone)] rfl rfl wz (λn_4=>ae (vB false) wz rfl (ak (ah (fC (aB 0 0 (.inr (by kernel_rfl)) (λ_ _ ag=>trivial) fu jK rfl rfl (.d (.agg (Entry.enc a_1))) rfl wz (aB 1 1 (.inr (by kernel_rfl)) (λ_ _ ag=>⟨.inl ⟨rfl,rfl⟩,trivial⟩) fu jK rfl rfl (.d (.agg (Entry.enc b_2))) rfl wz (fP 2 (.inr (by kernel_rfl)) z35 rfl wz (λn_5=>fP 3 (.inr (by kernel_rfl)) z35 rfl wz (λn_6=>gz 4 (.inr (by kernel_rfl)) (λ_ _ ag=>⟨.inr (.inr (by kernel_rfl)),⟨.inr (.inl (dis1 (ag_ne ag (i:=2) (j:=1) rfl rfl (by decide)))),⟨.inr (.inr (by kernel_rfl)),⟨.inr (.inr (by kernel_rfl)),trivial⟩⟩⟩⟩) 2 fu rfl rfl [(vS a_1.Key),(vS a_1.Item),(vI a_1.Version),(vI a_1.First),(vI a_1.Last),(vI a_1.Every),(vI a_1.Days),(vL eI a_1.Except),(vI a_1.From),(vI a_1.To),(vI a_1.Prio),(vL eS a_1.Tags),(vB a_1.Gone)] rfl wz (gz 5 (.inr (by kernel_rfl)) (λ_ _ ag=>⟨.inr (.inr (by kernel_rfl)),⟨.inr (.inr (by kernel_rfl)),⟨.inr (.inr (by kernel_rfl)),⟨.inr (.inr (by kernel_rfl)),⟨.inr (.inr (by kernel_rfl)),trivial⟩⟩⟩⟩⟩) 3 fu rfl rfl [(vS b_2.Key),(vS b_2.Item),(vI b_2.Version),(vI b_2.First),(vI b_2.Last),(vI b_2.Every),(vI b_2.Days),(vL eI b_2.Except),(vI b_2.From),(vI b_2.To),(vI b_2.Prio),(vL eS b_2.Tags),(vB b_2.Gone)] rfl wz (ak (ah (aa (aD iU rfl 7 rfl wz (gz 0 il ft 2 mK rfl rfl [(vS a_1.Key),(vS a_1.Item),(vI a_1.Version),(vI a_1.First),(vI a_1.Last),(vI a_1.Every),(vI a_1.Days),.nil,(vI a_1.From),(vI a_1.To),(vI a_1.Prio),(vL eS a_1.Tags),(vB a_1.Gone)] rfl wz (aD iW rfl 11 rfl wz (gz 0 il ft 2 o6 rfl rfl [(vS a_1.Key),(vS a_1.Item),(vI a_1.Version),(vI a_1.First),(vI a_1.Last),(vI a_1.Every),(vI a_1.Days),.nil,(vI a_1.From),(vI a_1.To),(vI a_1.Prio),.nil,(vB a_1.Gone)] rfl wz (aD iU rfl 7 rfl wz (gz 0 il ft 3 mK rfl rfl [(vS b_2.Key),(vS b_2.Item),(vI b_2.Version),(vI b_2.First),(vI b_2.Last),(vI b_2.Every),(vI b_2.Days),.nil,(vI b_2.From),(vI b_2.To),(vI b_2.Prio),(vL eS b_2.Tags),(vB b_2.Gone)] rfl wz (aD iW rfl 11 rfl wz ?_)))))))))))))))))))))))
 refine gz 0 il ft 3 o6 rfl rfl [(vS b_2.Key),(vS b_2.Item),(vI b_2.Version),(vI b_2.First),(vI b_2.Last),(vI b_2.Every),(vI b_2.Days),.nil,(vI b_2.From),(vI b_2.To),(vI b_2.Prio),.nil,(vB b_2.Gone)] rfl wz (ak (ah ?_))
 obtain ⟨v_7,h_8,hF⟩:=bind_some hF
 refine aJ (β:=Unit) (λ_=>([(4,(vB v_7))]:SL_)) (λ_=>([(n_3,some (.cells 13 [(vS a_1.Key),(vS a_1.Item),(vI a_1.Version),(vI a_1.First),(vI a_1.Last),(vI a_1.Every),(vI a_1.Days),(vL eI a_1.Except),(vI a_1.From),(vI a_1.To),(vI a_1.Prio),(vL eS a_1.Tags),(vB a_1.Gone)])),(n_4,some (.cells 13 [(vS b_2.Key),(vS b_2.Item),(vI b_2.Version),(vI b_2.First),(vI b_2.Last),(vI b_2.Every),(vI b_2.Days),(vL eI b_2.Except),(vI b_2.From),(vI b_2.To),(vI b_2.Prio),(vL eS b_2.Tags),(vB b_2.Gone)])),(n_5,some (.cells 13 [(vS a_1.Key),(vS a_1.Item),(vI a_1.Version),(vI a_1.First),(vI a_1.Last),(vI a_1.Every),(vI a_1.Days),.nil,(vI a_1.From),(vI a_1.To),(vI a_1.Prio),.nil,(vB a_1.Gone)])),(n_6,some (.cells 13 [(vS b_2.Key),(vS b_2.Item),(vI b_2.Version),(vI b_2.First),(vI b_2.Last),(vI b_2.Every),(vI b_2.Days),.nil,(vI b_2.From),(vI b_2.To),(vI b_2.Prio),.nil,(vB b_2.Gone)]))]:Hp)) (λ_=>True) ?_ ?_
 ·refine fC (aB 0 2 (.inr (by kernel_rfl)) (λ_ _ ag=>trivial) fu jK rfl rfl (.agg [(vS a_1.Key),(vS a_1.Item),(vI a_1.Version),(vI a_1.First),(vI a_1.Last),(vI a_1.Every),(vI a_1.Days),.nil,(vI a_1.From),(vI a_1.To),(vI a_1.Prio),.nil,(vB a_1.Gone)]) rfl wz ?_)
  obtain ⟨r_9,hr_10,h_8⟩:=bind_some h_8
  refine aF (nK hr_10) rfl hb62 rfl rfl rfl rfl wz (aB 2 3 (.inr (by kernel_rfl)) (λ_ _ ag=>⟨.inl ⟨rfl,rfl⟩,trivial⟩) fu jK rfl rfl (.agg [(vS b_2.Key),(vS b_2.Item),(vI b_2.Version),(vI b_2.First),(vI b_2.Last),(vI b_2.Every),(vI b_2.Days),.nil,(vI b_2.From),(vI b_2.To),(vI b_2.Prio),.nil,(vB b_2.Gone)]) rfl wz ?_)
  obtain ⟨r_11,hr_12,h_8⟩:=bind_some h_8
  refine aF (nK hr_12) rfl hb62 rfl rfl rfl rfl wz (ae (vB (sEq r_9 r_11)) wz rfl ?_)
  rcases au h_8 with⟨hc_13,h_8⟩|⟨hc_13,h_8⟩
  ·refine ax rfl hc_13 wz (aD iU rfl 7 rfl wa (aB 7 0 (.inr (by kernel_rfl)) (λ_ _ ag=>⟨.inl ⟨rfl,rfl⟩,⟨.inl ⟨rfl,rfl⟩,trivial⟩⟩) mK pV rfl rfl (vL eI a_1.Except) rfl wa (aD iU rfl 7 rfl wa (aB 9 1 (.inr (by kernel_rfl)) (λ_ _ ag=>⟨.inl ⟨rfl,rfl⟩,⟨.inl ⟨rfl,rfl⟩,⟨.inl ⟨rfl,rfl⟩,trivial⟩⟩⟩) mK pV rfl rfl (vL eI b_2.Except) rfl wa ?_))))
   obtain ⟨r_14,hr_15,h_8⟩:=bind_some h_8
   refine aF (j3 hr_15) rfl hb63 rfl rfl rfl rfl wa (ae (vB r_14) wz rfl ?_)
   rcases au h_8 with⟨hc_16,h_8⟩|⟨hc_16,h_8⟩
   ·refine ax rfl hc_16 wz (aD iW rfl 11 rfl wa (aB 14 0 (.inr (by kernel_rfl)) (λ_ _ ag=>⟨.inl ⟨rfl,rfl⟩,⟨.inl ⟨rfl,rfl⟩,⟨.inl ⟨rfl,rfl⟩,⟨.inl ⟨rfl,rfl⟩,trivial⟩⟩⟩⟩) o6 sK rfl rfl (vL eS a_1.Tags) rfl wa (aD iW rfl 11 rfl wa (aB 16 1 (.inr (by kernel_rfl)) (λ_ _ ag=>⟨.inl ⟨rfl,rfl⟩,⟨.inl ⟨rfl,rfl⟩,⟨.inl ⟨rfl,rfl⟩,⟨.inl ⟨rfl,rfl⟩,⟨.inl ⟨rfl,rfl⟩,trivial⟩⟩⟩⟩⟩) o6 sK rfl rfl (vL eS b_2.Tags) rfl wa ?_))))
    obtain ⟨r_17,hr_18,h_8⟩:=bind_some h_8
    refine aF (ic hr_18) rfl hb33 rfl rfl rfl rfl wa (ae (vB r_17) wz rfl (ae (vB r_17) wz rfl (ak ?_)))
    obtain rfl:=aj h_8
    exact cu
   ·refine ax rfl hc_16 wz (af wa (af wa (af wa (af wa (af wa (ae (vB false) wz rfl (ae (vB false) wz rfl (ak ?_))))))))
    obtain rfl:=aj h_8
    exact cu
  ·refine ax rfl hc_13 wz (af wa (af wa (af wa (af wa (af wa (ae (vB false) wz rfl (ae (vB false) wz rfl (af wa (af wa (af wa (af wa (af wa (ae (vB false) wz rfl (ae (vB false) wz rfl (ak ?_)))))))))))))))
   obtain rfl:=aj h_8
   exact cu
 ·rintro ⟨⟩ _ sl_ H_ hp_ hq_
  refine aZ _ hp_ hq_ ?_
  obtain rfl:=aj hF
  exact aA (bv (.inr rfl) [(vB v_7)] ⟨rfl,trivial⟩ rfl rfl rfl)
theorem ku {a_1:ByteArray} {b_2:ByteArray} {r:Int} (hF:fe a_1 b_2=some r) :
  FnM Tryz.prog 97 [(vS a_1),(vS b_2)] [] (vI r) []:=by
 refine FnM.of_wH ⟨Tryz.prog,8,[],[]⟩ rfl Tryz.func97 rfl rfl (lb_ rfl) (by kernel_rfl) ?_
 unfold fe at hF
 refine ah (aa (ae (vI 0) wz rfl (ak (ah (aa (ae (vS a_1) wz rfl (ae (vS b_2) wz rfl (h_ext (Gl (f:=148) Tryz.func148 rfl rfl (by kernel_rfl) (by kernel_rfl) _ _) rfl nb148 rfl wz (ae (vI (xq a_1 b_2)) wz rfl (ak ?_))))))))))
 obtain rfl:=aj hF
 exact aA (bv (.inr rfl) [(vI (xq a_1 b_2))] ⟨rfl,trivial⟩ rfl rfl rfl)
theorem rG {a_1:ByteArray} {b_2:ByteArray} {r:Int} (hF:strings_Compare a_1 b_2=some r) :
  FnM Tryz.prog 61 [(vS a_1),(vS b_2)] [] (vI r) []:=by
 refine FnM.of_wH ⟨Tryz.prog,8,[],[]⟩ rfl Tryz.func61 rfl rfl (lb_ rfl) (by kernel_rfl) ?_
 unfold strings_Compare at hF
 refine ah (aa (ae (vI 0) wz rfl (ak (ah (aa (ae (vS a_1) wz rfl (ae (vS b_2) wz rfl ?_)))))))
 obtain ⟨r_3,hr_4,hF⟩:=bind_some hF
 refine aF (ku hr_4) rfl hb97 rfl rfl rfl rfl wz (ae (vI r_3) wz rfl (ak ?_))
 obtain rfl:=aj hF
 exact aA (bv (.inr rfl) [(vI r_3)] ⟨rfl,trivial⟩ rfl rfl rfl)
theorem rO {x_1:Entry} {y_2:Entry} {r:Int} (hF:jT x_1 y_2=some r) :
  FnM Tryz.prog 60 [(.d (.agg (Entry.enc x_1))),(.d (.agg (Entry.enc y_2)))] [] (vI r) []:=by
 refine FnM.of_wH ⟨Tryz.prog,10,[],[]⟩ rfl Tryz.func60 rfl rfl (lb_ rfl) (by kernel_rfl) ?_
 unfold jT at hF
 refine ah (aa (jm 0 (.inl rfl) [(vS x_1.Key),(vS x_1.Item),(vI x_1.Version),(vI x_1.First),(vI x_1.Last),(vI x_1.Every),(vI x_1.Days),(vL eI x_1.Except),(vI x_1.From),(vI x_1.To),(vI x_1.Prio),(vL eS x_1.Tags),(vB x_1.Gone)] rfl rfl wz (λn_3=>jm 0 (.inl rfl) [(vS y_2.Key),(vS y_2.Item),(vI y_2.Version),(vI y_2.First),(vI y_2.Last),(vI y_2.Every),(vI y_2.Days),(vL eI y_2.Except),(vI y_2.From),(vI y_2.To),(vI y_2.Prio),(vL eS y_2.Tags),(vB y_2.Gone)] rfl rfl wz (λn_4=>ae (vI 0) wz rfl (ak (ah (aa (aD jd rfl 0 rfl wz (aB 0 0 il ft sz9 ag9 rfl rfl (vS x_1.Key) rfl wz (aD jd rfl 0 rfl wz (aB 0 1 il ft sz9 ag9 rfl rfl (vS y_2.Key) rfl wz ?_)))))))))))
 obtain ⟨r_5,hr_6,hF⟩:=bind_some hF
 refine aF (rG hr_6) rfl hb61 rfl rfl rfl rfl wz (ae (vI r_5) wz rfl (ak ?_))
 obtain rfl:=aj hF
 exact aA (bv (.inr rfl) [(vI r_5)] ⟨rfl,trivial⟩ rfl rfl rfl)
theorem rF {x_1:Int} {r:Int} (hF:lD x_1=some r) :
  FnM Tryz.prog 147 [(.d (.int .u64 x_1))] [] (vI r) []:=by
 refine FnM.of_wH ⟨Tryz.prog,25,[],[]⟩ rfl Tryz.func147 rfl rfl (lb_ rfl) (by kernel_rfl) ?_
 unfold lD at hF
 refine ah (aa (ae (vI 0) wz rfl (ak (ah (ah (aa (ae (.d (.int .u64 x_1)) wz rfl (ae (vB (decide (x_1>=4294967296))) wz rfl (ak ?_)))))))))
 obtain ⟨v_2,h_3,hF⟩:=bind_some hF
 refine aJ (β:=Unit) (λ_=>([(0,(.d (.int .u64 v_2.1))),(2,(vI v_2.2))]:SL_)) (λ_=>([]:Hp)) (λ_=>True) ?_ ?_
 ·rcases au h_3 with⟨hc_4,h_3⟩|⟨hc_4,h_3⟩
  ·refine aG rfl hc_4 (ah (aa (ae (.d (.int .u64 x_1)) wz rfl ?_)))
   obtain ⟨q_5,hz_6,h_3⟩:=bind_some h_3
   refine Dh rfl rfl hz_6 wz (ae (.d (.int .u64 q_5)) wz rfl (ak (aa (ae (vI 32) wz rfl (ak ?_)))))
   obtain rfl:=aj h_3
   exact cu
  ·refine aC rfl hc_4 (ay ?_)
   obtain rfl:=aj h_3
   exact cu
 ·rintro ⟨⟩ _ sl_ H_ hp_ hq_
  refine aZ _ hp_ hq_ (ah (ah (aa (ae (.d (.int .u64 v_2.1)) wz rfl (ae (vB (decide (v_2.1>=65536))) wz rfl (ak ?_))))))
  obtain ⟨v_7,h_8,hF⟩:=bind_some hF
  refine aJ (β:=Unit) (λ_=>([(0,(.d (.int .u64 v_7.1))),(2,(vI v_7.2))]:SL_)) (λ_=>([]:Hp)) (λ_=>True) ?_ ?_
  ·rcases au h_8 with⟨hc_9,h_8⟩|⟨hc_9,h_8⟩
   ·refine aG rfl hc_9 (ah (aa (ae (.d (.int .u64 v_2.1)) wz rfl ?_)))
    obtain ⟨q_10,hz_11,h_8⟩:=bind_some h_8
    refine Dh rfl rfl hz_11 wz (ae (.d (.int .u64 q_10)) wz rfl (ak (aa (ae (vI v_2.2) wz rfl (ae (vI (w64 (v_2.2+16))) wz rfl (ae (vI (w64 (v_2.2+16))) wz rfl (ak ?_)))))))
    obtain rfl:=aj h_8
    exact cu
   ·refine aC rfl hc_9 (ay ?_)
    obtain rfl:=aj h_8
    exact cu
  ·rintro ⟨⟩ _ sl_ H_ hp_ hq_
   refine aZ _ hp_ hq_ (ah (ah (aa (ae (.d (.int .u64 v_7.1)) wz rfl (ae (vB (decide (v_7.1>=256))) wz rfl (ak ?_))))))
   obtain ⟨v_12,h_13,hF⟩:=bind_some hF
   refine aJ (β:=Unit) (λ_=>([(0,(.d (.int .u64 v_12.1))),(2,(vI v_12.2))]:SL_)) (λ_=>([]:Hp)) (λ_=>True) ?_ ?_
   ·rcases au h_13 with⟨hc_14,h_13⟩|⟨hc_14,h_13⟩
    ·refine aG rfl hc_14 (ah (aa (ae (.d (.int .u64 v_7.1)) wz rfl ?_)))
     obtain ⟨q_15,hz_16,h_13⟩:=bind_some h_13
     refine Dh rfl rfl hz_16 wz (ae (.d (.int .u64 q_15)) wz rfl (ak (aa (ae (vI v_7.2) wz rfl (ae (vI (w64 (v_7.2+8))) wz rfl (ae (vI (w64 (v_7.2+8))) wz rfl (ak ?_)))))))
     obtain rfl:=aj h_13
     exact cu
    ·refine aC rfl hc_14 (ay ?_)
     obtain rfl:=aj h_13
     exact cu
   ·rintro ⟨⟩ _ sl_ H_ hp_ hq_
    refine aZ _ hp_ hq_ (ah (aa (ae (vI v_12.2) wz rfl (ae (.d (.int .u64 v_12.1)) wz rfl (wU un192 un5 rfl wz ?_)))))
    obtain ⟨b_17,hy_18,hF⟩:=bind_some hF
    refine Ct un9 rfl rfl hy_18 wz (wU un5 un3 rfl wz (ae (vI (w64 (v_12.2+(w64 (b_17.toNat:Int))))) wz rfl (ae (vI (w64 (v_12.2+(w64 (b_17.toNat:Int))))) wz rfl (ak ?_))))
    obtain rfl:=aj hF
    exact aA (bv (.inr rfl) [(vI (w64 (v_12.2+(w64 (b_17.toNat:Int)))))] ⟨rfl,trivial⟩ rfl rfl rfl)
theorem uQ {x_1:Int} {r:Int} (hF:iL x_1=some r) :
  FnM Tryz.prog 96 [(.d (.int .u64 x_1))] [] (vI r) []:=by
 refine FnM.of_wH ⟨Tryz.prog,8,[],[]⟩ rfl Tryz.func96 rfl rfl (lb_ rfl) (by kernel_rfl) ?_
 unfold iL at hF
 refine ah (aa (ae (vI 0) wz rfl (ak (ah (aC rfl rfl (ay (ah (aa (ae (.d (.int .u64 x_1)) wz rfl ?_)))))))))
 obtain ⟨r_2,hr_3,hF⟩:=bind_some hF
 refine aF (rF hr_3) rfl hb147 rfl rfl rfl rfl wz (ae (vI r_2) wz rfl (ak ?_))
 obtain rfl:=aj hF
 exact aA (bv (.inr rfl) [(vI r_2)] ⟨rfl,trivial⟩ rfl rfl rfl)
theorem ib {data_1:(List Entry)} {a_2:Int} {b_3:Int} {r:(List Entry)} (hF:cz data_1 a_2 b_3=some r) :
  FnM Tryz.prog 138 [(dV (av 0) 13 data_1),(vI a_2),(vI b_3),(.fn 60 [])] (([]:List Box)++gI 13 Entry.enc data_1) (.tup []) (([]:List Box).map some++gT data_1 (gB 13 Entry.enc r)):=by
 refine FnM.of_wHv ⟨Tryz.prog,53,[],[]⟩ rfl Tryz.func138 rfl rfl (lb_ rfl) (by kernel_rfl) ?_
 unfold cz at hF
 refine ah (aa (ae (vI a_2) wz rfl (ae (vI (w64 (a_2+1))) wz rfl (ae (vI (w64 (a_2+1))) wz rfl (ak ?_)))))
 obtain ⟨o_13,hj_14,hF⟩:=bind_some hF
 obtain ⟨nq_51,hj_14⟩:=kQ hj_14
 refine aJ (β:=((List Entry)×Int)) (λ(s_10:(List Entry)×Int)=>([]:SL_)) (λ(s_10:(List Entry)×Int)=>([((av 0),gB 13 Entry.enc s_10.1)]:Hp)) (λp=>o_13 = .go p) ?_ ?_
 ·refine aK (bX (β:=Nat×((List Entry)×Int)) (λp=>(λ(k_5:Nat) (s_10:(List Entry)×Int)=>([(0,(dV (av 0) 13 s_10.1)),(1,(vI a_2)),(2,(vI b_3)),(3,(.fn 60 [])),(8,(vI s_10.2))]:SL_)) p.1 p.2) (λp=>(λ(k_5:Nat) (s_10:(List Entry)×Int)=>([((av 0),gB 13 Entry.enc s_10.1)]:Hp)) p.1 p.2) (λp=>fM (λs=>bW b_3 a_2 s) p.1 p.2=some o_13) (λp=>p.1) (nq_51,(data_1,(w64 (a_2+1)))) hj_14 rfl (aN rfl) ?_)
  rintro ⟨k_5,s_10⟩ hL_12
  dsimp only at hL_12
  cases k_5 with
  | zero=>cases hL_12
  | succ k_5 =>
   obtain ⟨c_,hc_11,hL_12⟩:=bind_some hL_12
   unfold bW at hc_11
   refine ah (ah (aa (ae (vI s_10.2) wz rfl (ae (vI b_3) wz rfl (ae (vB (decide (s_10.2<b_3))) wz rfl (ak ?_))))))
   rcases au hc_11 with⟨hc_15,hc_11⟩|⟨hc_15,hc_11⟩
   ·refine aG rfl hc_15 (ay (ah (aK (ah (aa (ae (vI s_10.2) wz rfl (ae (vI s_10.2) wz rfl (ak ?_))))))))
    obtain ⟨o_24,hj_25,hc_11⟩:=bind_some hc_11
    obtain ⟨nq_50,hj_25⟩:=kQ hj_25
    refine aJ (β:=((List Entry)×Int)) (λ(s_21:(List Entry)×Int)=>([(0,(dV (av 0) 13 s_21.1)),(1,(vI a_2)),(2,(vI b_3)),(3,(.fn 60 [])),(8,(vI s_10.2))]:SL_)) (λ(s_21:(List Entry)×Int)=>([((av 0),gB 13 Entry.enc s_21.1)]:Hp)) (λp=>o_24 = .go p) ?_ ?_
    ·refine aK (bX (β:=Nat×((List Entry)×Int)) (λp=>(λ(k_16:Nat) (s_21:(List Entry)×Int)=>([(0,(dV (av 0) 13 s_21.1)),(1,(vI a_2)),(2,(vI b_3)),(3,(.fn 60 [])),(8,(vI s_10.2)),(9,(vI s_21.2))]:SL_)) p.1 p.2) (λp=>(λ(k_16:Nat) (s_21:(List Entry)×Int)=>([((av 0),gB 13 Entry.enc s_21.1)]:Hp)) p.1 p.2) (λp=>fM (λs=>bU a_2 s) p.1 p.2=some o_24) (λp=>p.1) (nq_50,(s_10.1,s_10.2)) hj_25 rfl (aN rfl) ?_)
     rintro ⟨k_16,s_21⟩ hL_23
     dsimp only at hL_23
     cases k_16 with
     | zero=>cases hL_23
     | succ k_16 =>
      obtain ⟨c_,hc_22,hL_23⟩:=bind_some hL_23
      unfold bU at hc_22
      refine ah (ah ?_)
      obtain ⟨v_26,h_27,hc_22⟩:=bind_some hc_22
      refine aJ (β:=Unit) (λ_=>([(0,(dV (av 0) 13 s_21.1)),(1,(vI a_2)),(2,(vI b_3)),(3,(.fn 60 [])),(8,(vI s_10.2)),(9,(vI s_21.2)),(34,(vB v_26))]:SL_)) (λ_=>([((av 0),gB 13 Entry.enc s_21.1)]:Hp)) (λ_=>True) ?_ ?_
      ·refine fC (ae (vI s_21.2) wz rfl (ae (vI a_2) wz rfl (ae (vB (decide (s_21.2>a_2))) wz rfl ?_)))
       rcases au h_27 with⟨hc_28,h_27⟩|⟨hc_28,h_27⟩
       ·refine ax rfl hc_28 wz (ae (.fn 60 []) wa rfl (ae (dV (av 0) 13 s_21.1) wa rfl (ae (vI s_21.2) wa rfl ?_)))
        obtain ⟨_,hi_29,h_27⟩:=bind_some h_27
        refine rH lg rfl rfl (lG hi_29) (jJ hi_29) wa ?_
        obtain ⟨e_30,hy_31,h_27⟩:=bind_some h_27
        refine mf 8 0 (.inr (by kernel_rfl)) (λ_ _ ag=>trivial) fu jK rfl rfl hy_31 (.d (.agg (Entry.enc e_30))) rfl wa (ae (dV (av 0) 13 s_21.1) wa rfl (ae (vI s_21.2) wa rfl (ae (vI (w64 (s_21.2-1))) wa rfl ?_)))
        obtain ⟨_,hi_32,h_27⟩:=bind_some h_27
        refine rH lg rfl rfl (lG hi_32) (jJ hi_32) wa ?_
        obtain ⟨e_33,hy_34,h_27⟩:=bind_some h_27
        refine mf 13 0 (.inr (by kernel_rfl)) (λ_ _ ag=>⟨.inl ⟨rfl,rfl⟩,trivial⟩) fu jK rfl rfl hy_34 (.d (.agg (Entry.enc e_33))) rfl wa ?_
        obtain ⟨r_35,hr_36,h_27⟩:=bind_some h_27
        refine aF (rO hr_36) rfl hb60 rfl rfl rfl rfl wa (ae (vB (decide (r_35<0))) wa rfl (ae (vB (decide (r_35<0))) wz rfl (ak ?_)))
        obtain rfl:=aj h_27
        exact cu
       ·refine ax rfl hc_28 wz (af wa (af wa (af wa (af wa (af wa (af wa (af wa (af wa (af wa (af wa (af wa (af wa (ae (vB false) wz rfl (ak ?_))))))))))))))
        obtain rfl:=aj h_27
        exact cu
      ·rintro ⟨⟩ _ sl_ H_ hp_ hq_
       refine aZ _ hp_ hq_ ?_
       rcases au hc_22 with⟨hc_37,hc_22⟩|⟨hc_37,hc_22⟩
       ·refine aG rfl hc_37 (ay (ah (aK (fC (ae (dV (av 0) 13 s_21.1) wz rfl (ae (vI s_21.2) wz rfl (ae (dV (av 0) 13 s_21.1) wz rfl (ae (vI s_21.2) wz rfl (ae (vI (w64 (s_21.2-1))) wz rfl (ae (dV (av 0) 13 s_21.1) wz rfl (ae (vI s_21.2) wz rfl (ae (vI (w64 (s_21.2-1))) wz rfl ?_))))))))))))
        obtain ⟨_,hi_38,hc_22⟩:=bind_some hc_22
        refine rH lg rfl rfl (lG hi_38) (jJ hi_38) wz ?_
        obtain ⟨e_39,hy_40,hc_22⟩:=bind_some hc_22
        refine mf 9 0 (.inr (by kernel_rfl)) (λ_ _ ag=>trivial) fu jK rfl rfl hy_40 (.d (.agg (Entry.enc e_39))) rfl wz (ae (dV (av 0) 13 s_21.1) wz rfl (ae (vI s_21.2) wz rfl ?_))
        obtain ⟨_,hi_41,hc_22⟩:=bind_some hc_22
        refine rH lg rfl rfl (lG hi_41) (jJ hi_41) wz ?_
        obtain ⟨e_42,hy_43,hc_22⟩:=bind_some hc_22
        refine mf 13 0 (.inr (by kernel_rfl)) (λ_ _ ag=>⟨.inl ⟨rfl,rfl⟩,trivial⟩) fu jK rfl rfl hy_43 (.d (.agg (Entry.enc e_42))) rfl wz ?_
        obtain ⟨_,hi_44,hc_22⟩:=bind_some hc_22
        refine rH lg rfl rfl (lG hi_44) (jJ hi_44) wz ?_
        obtain ⟨e_45,hy_46,hc_22⟩:=bind_some hc_22
        refine jl 15 (.inr (by kernel_rfl)) (λ_ _ ag=>⟨.inr (.inr (by kernel_rfl)),⟨.inr (.inr (by kernel_rfl)),trivial⟩⟩) 0 fu rfl rfl hy_46 e_39 rfl wz (dZ (v':=(dV (av 0) 13 (s_21.1.set (0+(s_21.2).toNat) e_39))) 0 rfl (jW (by simp)) (dZ (v':=(dV (av 0) 13 (s_21.1.set (0+(s_21.2).toNat) e_39))) 37 rfl (jW (by simp)) (dZ (v':=(dV (av 0) 13 (s_21.1.set (0+(s_21.2).toNat) e_39))) 39 rfl (jW (by simp)) (dZ (v':=(dV (av 0) 13 (s_21.1.set (0+(s_21.2).toNat) e_39))) 42 rfl (jW (by simp)) (dZ (v':=(dV (av 0) 13 (s_21.1.set (0+(s_21.2).toNat) e_39))) 47 rfl (jW (by simp)) ?_)))))
        obtain ⟨_,hi_47,hc_22⟩:=bind_some hc_22
        refine rH lg rfl rfl (lG hi_47) (jJ hi_47) wz ?_
        obtain ⟨e_48,hy_49,hc_22⟩:=bind_some hc_22
        refine jl 17 (.inr (by kernel_rfl)) (λ_ _ ag=>⟨.inr (.inr (by kernel_rfl)),⟨.inr (.inr (by kernel_rfl)),⟨.inr (.inr (by kernel_rfl)),trivial⟩⟩⟩) 0 fu rfl rfl hy_49 e_42 rfl wz (dZ (v':=(dV (av 0) 13 ((s_21.1.set (0+(s_21.2).toNat) e_39).set (0+((w64 (s_21.2-1))).toNat) e_42))) 0 rfl (jW (by simp)) (dZ (v':=(dV (av 0) 13 ((s_21.1.set (0+(s_21.2).toNat) e_39).set (0+((w64 (s_21.2-1))).toNat) e_42))) 37 rfl (jW (by simp)) (dZ (v':=(dV (av 0) 13 ((s_21.1.set (0+(s_21.2).toNat) e_39).set (0+((w64 (s_21.2-1))).toNat) e_42))) 39 rfl (jW (by simp)) (dZ (v':=(dV (av 0) 13 ((s_21.1.set (0+(s_21.2).toNat) e_39).set (0+((w64 (s_21.2-1))).toNat) e_42))) 42 rfl (jW (by simp)) (dZ (v':=(dV (av 0) 13 ((s_21.1.set (0+(s_21.2).toNat) e_39).set (0+((w64 (s_21.2-1))).toNat) e_42))) 47 rfl (jW (by simp)) (ak (aa (ae (vI s_21.2) wz rfl (ae (vI (w64 (s_21.2-1))) wz rfl (ae (vI (w64 (s_21.2-1))) wz rfl (ak ?_)))))))))))
        obtain rfl:=aj hc_22
        exact bO (k_16,(((s_21.1.set (0+(s_21.2).toNat) e_39).set (0+((w64 (s_21.2-1))).toNat) e_42),(w64 (s_21.2-1)))) hL_23 (ls_ _) rfl (aN rfl)
       ·refine aC rfl hc_37 (bT ?_)
        obtain rfl:=aj hc_22
        obtain rfl:=aj hL_23
        exact cB ((s_21.1,s_21.2)) rfl rfl (aN rfl)
    ·rintro s_21 ho_ sl_ H_ hp_ hq_
     subst ho_
     refine aZ _ hp_ hq_ (aa (ae (vI s_10.2) wz rfl (ae (vI (w64 (s_10.2+1))) wz rfl (ae (vI (w64 (s_10.2+1))) wz rfl (ak ?_)))))
     obtain rfl:=aj hc_11
     exact bO (k_5,(s_21.1,(w64 (s_10.2+1)))) hL_12 (ls_ _) rfl (aN rfl)
   ·refine aC rfl hc_15 (bT ?_)
    obtain rfl:=aj hc_11
    obtain rfl:=aj hL_12
    exact cB ((s_10.1,s_10.2)) rfl rfl (aN rfl)
 ·rintro s_10 ho_ sl_ H_ hp_ hq_
  subst ho_
  show sD _ _ _ _ _ _ _ _
  obtain rfl:=aj hF
  exact Df (H0:=([((av 0),gB 13 Entry.enc s_10.1)]:Hp)) (sl':=envS []) hq_ (Ez (bs:=([]:List Box)) (os:=([]:List Box)) (xs:=data_1) (o:=gB 13 Entry.enc s_10.1) (.inl rfl) [] trivial rfl rfl rfl rfl rfl (by kernel_rfl) qP rfl)
theorem jA {data_1:(List Entry)} {a_2:Int} {b_3:Int} {limit_4:Int} {r:(List Entry)} (hF:dQ data_1 a_2 b_3 limit_4=some r) :
  FnM Tryz.prog 95 [(dV (av 0) 13 data_1),(vI a_2),(vI b_3),(vI limit_4),(.fn 60 [])] (([]:List Box)++gI 13 Entry.enc data_1) (.tup []) (([]:List Box).map some++gT data_1 (gB 13 Entry.enc r)):=by
 refine FnM.of_wHv ⟨Tryz.prog,148,[],[]⟩ rfl Tryz.func95 rfl rfl (lb_ rfl) (by kernel_rfl) ?_
 unfold dQ at hF
 refine ah (aa (ae (vB true) wz rfl (ak (ah (aa (ae (vB true) wz rfl (ak ?_)))))))
 obtain ⟨o_14,hj_15,hF⟩:=bind_some hF
 obtain ⟨nq_21,hj_15⟩:=kQ hj_15
 refine aJ (β:=(Unit)) (λ(s_11:Unit)=>([]:SL_)) (λ(s_11:Unit)=>([((av 0),gB 13 Entry.enc data_1)]:Hp)) (λp=>o_14 = .go p) ?_ ?_
 ·refine aK (bX (β:=Nat×(Unit)) (λp=>(λ(k_6:Nat) (s_11:Unit)=>([(0,(dV (av 0) 13 data_1)),(1,(vI a_2)),(2,(vI b_3)),(3,(vI limit_4)),(4,(.fn 60 [])),(10,(vB true)),(11,(vB true))]:SL_)) p.1 p.2) (λp=>(λ(k_6:Nat) (s_11:Unit)=>([((av 0),gB 13 Entry.enc data_1)]:Hp)) p.1 p.2) (λp=>fM (λs=>dI b_3 a_2 data_1 limit_4 s) p.1 p.2=some o_14) (λp=>p.1) (nq_21,()) hj_15 rfl (aN rfl) ?_)
  rintro ⟨k_6,s_11⟩ hL_13
  dsimp only at hL_13
  cases k_6 with
  | zero=>cases hL_13
  | succ k_6 =>
   obtain ⟨c_,hc_12,hL_13⟩:=bind_some hL_13
   unfold dI at hc_12
   refine aK (ah (aa (ae (vI b_3) wz rfl (ae (vI a_2) wz rfl (ae (vI (w64 (b_3-a_2))) wz rfl (ae (vI (w64 (b_3-a_2))) wz rfl (ak (ah (ah (aa (ae (vI (w64 (b_3-a_2))) wz rfl (ae (vB (decide ((w64 (b_3-a_2))<=12))) wz rfl (ak ?_)))))))))))))
   rcases au hc_12 with⟨hc_16,hc_12⟩|⟨hc_16,hc_12⟩
   ·refine aG rfl hc_16 (ah (aa (ae (dV (av 0) 13 data_1) wz rfl (ae (vI a_2) wz rfl (ae (vI b_3) wz rfl (ae (.fn 60 []) wz rfl ?_))))))
    obtain ⟨r_17,hr_18,hc_12⟩:=bind_some hc_12
    obtain ⟨_,hs_19,hc_12⟩:=bind_some hc_12
    replace hs_19:=xM hs_19
    refine wB 0 [] 0 0 il ft (ib hr_18) rfl hb138 rfl rfl rfl (by kernel_rfl) rfl (.inr (.inl rfl)) rfl (by kernel_rfl) (by kernel_rfl) (by kernel_rfl) (by kernel_rfl) rfl (by decide) (by kernel_rfl) qP (DF hs_19) wz ([((av 0),gB 13 Entry.enc r_17)]:Hp) (by kernel_rfl) (dZ (v':=(dV (av 0) 13 r_17)) 0 rfl (jW hs_19.symm) (dZ (v':=(dV (av 0) 13 r_17)) 26 rfl (jW hs_19.symm) (ak ?_)))
    obtain rfl:=aj hc_12
    obtain rfl:=aj hL_13
    obtain rfl:=aj hF
    exact aA (Ez (bs:=([]:List Box)) (os:=([]:List Box)) (xs:=data_1) (o:=gB 13 Entry.enc r_17) (.inr rfl) [] trivial rfl rfl rfl rfl rfl (by kernel_rfl) qP rfl)
   ·refine aC rfl hc_16 (ay (ah (ah (aa (ae (vI limit_4) wz rfl (ae (vB (limit_4==0)) wz rfl (ak ?_)))))))
    rcases au hc_12 with⟨hc_20,hc_12⟩|⟨hc_20,hc_12⟩
    ·refine aG rfl hc_20 (ah (aa (ae (dV (av 0) 13 data_1) wz rfl (ae (vI a_2) wz rfl (ae (vI b_3) wz rfl (ae (.fn 60 []) wz rfl ?_))))))
     cases hc_12
    ·refine aC rfl hc_20 (ay (ah (ah (aa (ae (vB true) wz rfl (ae (vB false) wz rfl (ak (aC rfl rfl (ay (ah (aa (ae (dV (av 0) 13 data_1) wz rfl (ae (vI a_2) wz rfl (ae (vI b_3) wz rfl (ae (.fn 60 []) wz rfl ?_)))))))))))))))
     cases hc_12
 ·rintro s_11 ho_ sl_ H_ hp_ hq_
  subst ho_
  show sD _ _ _ _ _ _ _ _
  obtain rfl:=aj hF
  exact Df (H0:=([((av 0),gB 13 Entry.enc data_1)]:Hp)) (sl':=envS []) hq_ (Ez (bs:=([]:List Box)) (os:=([]:List Box)) (xs:=data_1) (o:=gB 13 Entry.enc data_1) (.inl rfl) [] trivial rfl rfl rfl rfl rfl (by kernel_rfl) qP rfl)
theorem iG {x_1:(List Entry)} {r:(List Entry)} (hF:bu x_1=some r) :
  FnM Tryz.prog 59 [(dV (av 0) 13 x_1),(.fn 60 [])] (([]:List Box)++gI 13 Entry.enc x_1) (.tup []) (([]:List Box).map some++gT x_1 (gB 13 Entry.enc r)):=by
 refine FnM.of_wHv ⟨Tryz.prog,14,[],[]⟩ rfl Tryz.func59 rfl rfl (lb_ rfl) (by kernel_rfl) ?_
 unfold bu at hF
 refine ah (aa (ae (dV (av 0) 13 x_1) wz rfl (FC nY rfl wz (ae (vI (x_1.length:Int)) wz rfl (ak (aa (ae (dV (av 0) 13 x_1) wz rfl (ae (vI (x_1.length:Int)) wz rfl (ae (vI (x_1.length:Int)) wz rfl (wU un3 FD rfl wz ?_))))))))))
 obtain ⟨r_3,hr_4,hF⟩:=bind_some hF
 refine aF (uQ hr_4) rfl hb96 rfl rfl rfl rfl wz (ae (.fn 60 []) wz rfl ?_)
 obtain ⟨r_5,hr_6,hF⟩:=bind_some hF
 obtain ⟨_,hs_7,hF⟩:=bind_some hF
 replace hs_7:=xM hs_7
 refine wB 0 [] 0 0 il ft (jA hr_6) rfl hb95 rfl rfl rfl (by kernel_rfl) rfl (.inr (.inl rfl)) rfl (by kernel_rfl) (by kernel_rfl) (by kernel_rfl) (by kernel_rfl) rfl (by decide) (by kernel_rfl) qP (DF hs_7) wz ([((av 0),gB 13 Entry.enc r_5)]:Hp) (by kernel_rfl) (dZ (v':=(dV (av 0) 13 r_5)) 0 rfl (jW hs_7.symm) (dZ (v':=(dV (av 0) 13 r_5)) 5 rfl (jW hs_7.symm) (dZ (v':=(dV (av 0) 13 r_5)) 7 rfl (jW hs_7.symm) (ak ?_))))
 show sD _ _ _ _ _ _ _ _
 obtain rfl:=aj hF
 exact Ez (bs:=([]:List Box)) (os:=([]:List Box)) (xs:=x_1) (o:=gB 13 Entry.enc r_5) (.inl rfl) [] trivial rfl rfl rfl rfl rfl (by kernel_rfl) qP rfl
theorem uw {a_1:(List Entry)} {b_2:(List Entry)} {r:(List Entry)×Int} (hF:jO a_1 b_2=some r) :
  FnM Tryz.prog 17 [(vL Entry.enc a_1),(vL Entry.enc b_2)] [] (.tup [(vL Entry.enc r.1),(vI r.2)]) []:=by
 refine FnM.of_wH ⟨Tryz.prog,66,[],[]⟩ rfl Tryz.func17 rfl rfl (lb_ rfl) (by kernel_rfl) ?_
 unfold jO at hF
 refine ah (aa (ae .nil wz rfl (ae (vI 0) wz rfl (ak (ah (aa (ae (vL Entry.enc a_1) wz rfl ?_)))))))
 obtain ⟨r_3,hr_4,hF⟩:=bind_some hF
 refine uf [] (fO hr_4) rfl hb9 rfl (by kernel_rfl) (by kernel_rfl) (by kernel_rfl) (by kernel_rfl) (by kernel_rfl) rfl (by decide) (by kernel_rfl) wz ([]:Hp) (λ_=>by kernel_rfl) (λn_6=>ae (gV n_6 13 r_3) wz rfl (ak (ah (ah (aa (ae (vL Entry.enc b_2) wz rfl (dP nY rfl wz (ae (vI 0) wz rfl (ak ?_)))))))))
 obtain ⟨o_17,hj_18,hF⟩:=bind_some hF
 obtain ⟨hn_11,hj_18⟩:=bJ hj_18
 refine aJ (β:=((List Entry))×Nm) (λp=>(λ(s_12:List Entry) (n_14:Nm)=>([(6,(gV n_14 13 s_12))]:SL_)) p.1 p.2) (λp=>(λ(s_12:List Entry) (n_14:Nm)=>([(n_14,gB 13 Entry.enc s_12)]:Hp)) p.1 p.2) (λp=>o_17 = .go p.1) ?_ ?_
 ·refine aK (bX (β:=Nat×(List Entry)×((List Entry))×Nm) (λp=>(λ(k_7:Nat) (l_8:List Entry) (s_12:List Entry) (n_14:Nm)=>([(6,(gV n_14 13 s_12)),(12,(vL Entry.enc b_2)),(13,(vI (b_2.length:Int))),(14,(vI (k_7:Int)))]:SL_)) p.1 p.2.1 p.2.2.1 p.2.2.2) (λp=>(λ(k_7:Nat) (l_8:List Entry) (s_12:List Entry) (n_14:Nm)=>([(n_14,gB 13 Entry.enc s_12)]:Hp)) p.1 p.2.1 p.2.2.1 p.2.2.2) (λp=>dR (λk x s=>eZ k x s) p.2.1 p.1 p.2.2.1=some o_17/\(b_2).drop p.1=p.2.1) (λp=>p.2.1.length) (0,b_2,r_3,n_6) ⟨hj_18,rfl⟩ rfl (aN rfl) ?_)
  rintro ⟨k_7,l_8,s_12,n_14⟩ ⟨hL_16,hD_10⟩
  dsimp only at hL_16 hD_10
  cases l_8 with
  | nil =>
   obtain rfl:=aj hL_16
   refine ah (aa (ae (vB (decide ((k_7:Int)<(b_2.length:Int)))) wz rfl (ak ?_)))
   refine ah (aC rfl (drop_nil hD_10) (bT ?_))
   exact cB (s_12,n_14) rfl rfl (aN rfl)
  | cons x_9 l_8 =>
   obtain ⟨c_,hc_15,hL_16⟩:=bind_some hL_16
   refine ah (aa (ae (vB (decide ((k_7:Int)<(b_2.length:Int)))) wz rfl (ak ?_)))
   refine ah (aG rfl (dA hD_10) (ay ?_))
   unfold eZ at hc_15
   refine ah (aK (ah (aa (iH lg rfl rfl (dU hD_10) rfl wz (eO fu jK rfl (.d (.agg (Entry.enc x_9))) rfl wz (fP 0 (.inl rfl) z35 rfl wz (λn_19=>gz 0 il ft 1 fu rfl rfl [(vS x_9.Key),(vS x_9.Item),(vI x_9.Version),(vI x_9.First),(vI x_9.Last),(vI x_9.Every),(vI x_9.Days),(vL eI x_9.Except),(vI x_9.From),(vI x_9.To),(vI x_9.Prio),(vL eS x_9.Tags),(vB x_9.Gone)] rfl wz (ak (ah (aa (ae (gV n_14 13 s_12) wz rfl (ae (.fn 58 [(.ref n_19 0 0)]) wz rfl ?_))))))))))))
   obtain ⟨r_20,hr_21,hc_15⟩:=bind_some hc_15
   refine wB 0 [1] 0 0 il ft (iC hr_21) rfl hb57 rfl rfl rfl (by kernel_rfl) rfl (.inl rfl) rfl (by kernel_rfl) (by kernel_rfl) (by kernel_rfl) (by kernel_rfl) rfl (by decide) (by kernel_rfl) qP (DF rfl) wz ([(n_14,gB 13 Entry.enc s_12),(n_19,some (.cells 13 [(vS x_9.Key),(vS x_9.Item),(vI x_9.Version),(vI x_9.First),(vI x_9.Last),(vI x_9.Every),(vI x_9.Days),(vL eI x_9.Except),(vI x_9.From),(vI x_9.To),(vI x_9.Prio),(vL eS x_9.Tags),(vB x_9.Gone)]))]:Hp) (by kernel_rfl) (ae (vI r_20) wz rfl (ak (aK (ah (aa (ae (vI r_20) wz rfl (ae (vB (decide (r_20<0))) wz rfl (ae (vB (decide (r_20<0))) wz rfl (ak ?_)))))))))
   rcases au hc_15 with⟨hc_22,hc_15⟩|⟨hc_22,hc_15⟩
   ·refine aG rfl hc_22 (aa (ae (gV n_14 13 s_12) wz rfl (aB 0 1 il ft fu jK rfl rfl (.d (.agg (Entry.enc x_9))) rfl wz (dY (([x_9]:List Entry).map Entry.enc) lg EF rfl rfl rfl rfl rfl wz ?_))))
    obtain ⟨a_23,hz_24,hc_15⟩:=bind_some hc_15
    refine mY 0 il ft (i:=0) uS uS fu z35 rfl (by decide) DX (by decide) (λ_=>rfl) rfl rfl rfl hz_24 wz (λn_25=>ae (gV n_25 13 a_23) wz rfl (ak (aa (gX (dD hD_10 hn_11) wz rfl (ae (vI ((k_7+1:Nat):Int)) wz rfl (ak ?_))))))
    obtain rfl:=aj hc_15
    exact bO (k_7+1,l_8,a_23,n_25) ⟨hL_16,bg hD_10⟩ (ls_ _) rfl (aN rfl)
   ·refine aC rfl hc_22 (ah ?_)
    obtain ⟨v_26,h_27,hc_15⟩:=bind_some hc_15
    refine aJ (β:=Unit) (λ_=>([(6,(gV n_14 13 s_12)),(8,(.ref n_19 0 0)),(9,(vI r_20)),(12,(vL Entry.enc b_2)),(13,(vI (b_2.length:Int))),(14,(vI (k_7:Int))),(28,(vB v_26))]:SL_)) (λ_=>([(n_14,gB 13 Entry.enc s_12),(n_19,some (.cells 13 [(vS x_9.Key),(vS x_9.Item),(vI x_9.Version),(vI x_9.First),(vI x_9.Last),(vI x_9.Every),(vI x_9.Days),(vL eI x_9.Except),(vI x_9.From),(vI x_9.To),(vI x_9.Prio),(vL eS x_9.Tags),(vB x_9.Gone)]))]:Hp)) (λ_=>True) ?_ ?_
    ·refine fC (ae (gV n_14 13 s_12) wz rfl (ae (vI r_20) wz rfl ?_))
     obtain ⟨_,hi_28,h_27⟩:=bind_some h_27
     refine oC lg rfl rfl (lG hi_28) (jJ hi_28) wz (aD kz rfl 2 rfl wz ?_)
     obtain ⟨e_29,hy_30,h_27⟩:=bind_some h_27
     refine mf 4 0 (.inr (by kernel_rfl)) (λ_ _ ag=>trivial) sz3 ag3 rfl rfl hy_30 (vI e_29.Version) rfl wz (aD kz rfl 2 rfl wz (aB 6 1 (.inr (by kernel_rfl)) (λ_ _ ag=>⟨.inl ⟨rfl,rfl⟩,trivial⟩) sz3 ag3 rfl rfl (vI x_9.Version) rfl wz (ae (vB (e_29.Version==x_9.Version)) wz rfl ?_)))
     rcases au h_27 with⟨hc_31,h_27⟩|⟨hc_31,h_27⟩
     ·refine ax rfl hc_31 wz (ae (gV n_14 13 s_12) wa rfl (ae (vI r_20) wa rfl ?_))
      obtain ⟨_,hi_32,h_27⟩:=bind_some h_27
      refine oC lg rfl rfl (lG hi_32) (jJ hi_32) wa ?_
      obtain ⟨e_33,hy_34,h_27⟩:=bind_some h_27
      refine mf 12 0 (.inr (by kernel_rfl)) (λ_ _ ag=>⟨.inl ⟨rfl,rfl⟩,⟨.inl ⟨rfl,rfl⟩,trivial⟩⟩) fu jK rfl rfl hy_34 (.d (.agg (Entry.enc e_33))) rfl wa (aB 13 1 (.inr (by kernel_rfl)) (λ_ _ ag=>⟨.inl ⟨rfl,rfl⟩,⟨.inl ⟨rfl,rfl⟩,⟨.inl ⟨rfl,rfl⟩,trivial⟩⟩⟩) fu jK rfl rfl (.d (.agg (Entry.enc x_9))) rfl wa ?_)
      obtain ⟨r_35,hr_36,h_27⟩:=bind_some h_27
      refine aF (nH hr_36) rfl hb19 rfl rfl rfl rfl wa (ae (vB (!r_35)) wa rfl (ae (vB (!r_35)) wz rfl (ae (vB (!r_35)) wz rfl (ak ?_))))
      obtain rfl:=aj h_27
      exact cu
     ·refine ax rfl hc_31 wz (af wa (af wa (af wa (af wa (af wa (af wa (af wa (ae (vB false) wz rfl (ae (vB false) wz rfl (ak ?_))))))))))
      obtain rfl:=aj h_27
      exact cu
    ·rintro ⟨⟩ _ sl_ H_ hp_ hq_
     refine aZ _ hp_ hq_ ?_
     rcases au hc_15 with⟨hc_37,hc_15⟩|⟨hc_37,hc_15⟩
     ·refine aG rfl hc_37 (ah (aa (ae .nil wz rfl (ae (vI 13) wz rfl (ak ?_)))))
      obtain rfl:=aj hc_15
      obtain rfl:=aj hL_16
      obtain rfl:=aj hF
      exact aA (bv (.inr rfl) [.nil,(vI 13)] ⟨rfl,⟨rfl,trivial⟩⟩ rfl rfl rfl)
     ·refine aC rfl hc_37 (ah (fC (ae (gV n_14 13 s_12) wz rfl (ae (vI r_20) wz rfl ?_))))
      obtain ⟨_,hi_38,hc_15⟩:=bind_some hc_15
      refine oC lg rfl rfl (lG hi_38) (jJ hi_38) wz (aD kz rfl 2 rfl wz ?_)
      obtain ⟨e_39,hy_40,hc_15⟩:=bind_some hc_15
      refine mf 4 0 (.inr (by kernel_rfl)) (λ_ _ ag=>trivial) sz3 ag3 rfl rfl hy_40 (vI e_39.Version) rfl wz (aD kz rfl 2 rfl wz (aB 6 1 (.inr (by kernel_rfl)) (λ_ _ ag=>⟨.inl ⟨rfl,rfl⟩,trivial⟩) sz3 ag3 rfl rfl (vI x_9.Version) rfl wz (ae (vB (decide (e_39.Version<x_9.Version))) wz rfl (ae (vB (decide (e_39.Version<x_9.Version))) wz rfl (ak ?_)))))
      obtain ⟨v_41,h_42,hc_15⟩:=bind_some hc_15
      refine aJ (β:=Unit) (λ_=>([(6,(gV n_14 13 v_41)),(12,(vL Entry.enc b_2)),(13,(vI (b_2.length:Int))),(14,(vI (k_7:Int)))]:SL_)) (λ_=>([(n_14,gB 13 Entry.enc v_41),(n_19,some (.cells 13 [(vS x_9.Key),(vS x_9.Item),(vI x_9.Version),(vI x_9.First),(vI x_9.Last),(vI x_9.Every),(vI x_9.Days),(vL eI x_9.Except),(vI x_9.From),(vI x_9.To),(vI x_9.Prio),(vL eS x_9.Tags),(vB x_9.Gone)]))]:Hp)) (λ_=>True) ?_ ?_
      ·rcases au h_42 with⟨hc_43,h_42⟩|⟨hc_43,h_42⟩
       ·refine aG rfl hc_43 (aa (ae (gV n_14 13 s_12) wz rfl (ae (vI r_20) wz rfl (aB 0 1 il ft fu jK rfl rfl (.d (.agg (Entry.enc x_9))) rfl wz ?_))))
        obtain ⟨_,hi_44,h_42⟩:=bind_some h_42
        refine oC lg rfl rfl (lG hi_44) (jJ hi_44) wz ?_
        obtain ⟨e_45,hy_46,h_42⟩:=bind_some h_42
        refine jl 0 il ft 0 fu rfl rfl hy_46 x_9 rfl wz (dZ (v':=(gV n_14 13 (s_12.set (0+(r_20).toNat) x_9))) 6 rfl (bE (by simp)) (dZ (v':=(gV n_14 13 (s_12.set (0+(r_20).toNat) x_9))) 47 rfl (bE (by simp)) (dZ (v':=(gV n_14 13 (s_12.set (0+(r_20).toNat) x_9))) 55 rfl (bE (by simp)) (ak ?_))))
        obtain rfl:=aj h_42
        exact cu
       ·refine aC rfl hc_43 (ay ?_)
        obtain rfl:=aj h_42
        exact cu
      ·rintro ⟨⟩ _ sl_ H_ hp_ hq_
       refine aZ _ hp_ hq_ (aa (gX (dD hD_10 hn_11) wz rfl (ae (vI ((k_7+1:Nat):Int)) wz rfl (ak ?_))))
       obtain rfl:=aj hc_15
       exact bO (k_7+1,l_8,v_41,n_14) ⟨hL_16,bg hD_10⟩ (ls_ _) rfl (aN rfl)
 ·rintro ⟨s_12,n_14⟩ ho_ sl_ H_ hp_ hq_
  subst ho_
  refine aZ _ hp_ hq_ (ah (aa (ae (gV n_14 13 s_12) wz rfl ?_)))
  obtain ⟨r_47,hr_48,hF⟩:=bind_some hF
  obtain ⟨_,hs_49,hF⟩:=bind_some hF
  replace hs_49:=xM hs_49
  refine wB 0 [] 0 0 il ft (iG hr_48) rfl hb59 rfl rfl rfl (by kernel_rfl) rfl (.inl rfl) rfl (by kernel_rfl) (by kernel_rfl) (by kernel_rfl) (by kernel_rfl) rfl (by decide) (by kernel_rfl) qP (DF hs_49) wz ([(n_14,gB 13 Entry.enc r_47)]:Hp) (by kernel_rfl) (dZ (v':=(gV n_14 13 r_47)) 6 rfl (bE hs_49.symm) (dZ (v':=(gV n_14 13 r_47)) 60 rfl (bE hs_49.symm) (ak (ah (ah (aa (ae (gV n_14 13 r_47) wz rfl (wE nY rfl wz (ae (vB (decide ((r_47.length:Int)>200))) wz rfl (ak ?_))))))))))
  rcases au hF with⟨hc_50,hF⟩|⟨hc_50,hF⟩
  ·refine aG rfl hc_50 (ah (aa (ae .nil wz rfl (ae (vI 2) wz rfl (ak ?_)))))
   obtain rfl:=aj hF
   exact aA (bv (.inr rfl) [.nil,(vI 2)] ⟨rfl,⟨rfl,trivial⟩⟩ rfl rfl rfl)
  ·refine aC rfl hc_50 (ay (ah (aa (ae (gV n_14 13 r_47) wz rfl (ae (gV n_14 13 r_47) wz rfl (ae (vI 0) wz rfl (ak (gW 0 rfl (gu 4 0 rfl rfl (gu 6 0 rfl rfl (gu 60 0 rfl rfl (gu 62 0 rfl rfl (gu 65 0 rfl rfl ?_)))))))))))))
   obtain rfl:=aj hF
   exact aA (bv (.inr rfl) [(vL Entry.enc r_47),(vI 0)] ⟨rfl,⟨rfl,trivial⟩⟩ rfl rfl rfl)
theorem ek {s1_1:(List Entry)} {s2_2:(List Entry)} {r:Bool} (hF:aM s1_1 s2_2=some r) :
  FnM Tryz.prog 18 [(vL Entry.enc s1_1),(vL Entry.enc s2_2),(.fn 19 [])] [] (vB r) []:=by
 refine FnM.of_wH ⟨Tryz.prog,32,[],[]⟩ rfl Tryz.func18 rfl rfl (lb_ rfl) (by kernel_rfl) ?_
 unfold aM at hF
 refine ah (aa (ae (vB false) wz rfl (ak (ah (ah (aa (ae (vL Entry.enc s1_1) wz rfl (dP nY rfl wz (ae (vL Entry.enc s2_2) wz rfl (dP nY rfl wz (ae (vB ((s1_1.length:Int) != (s2_2.length:Int))) wz rfl (ak ?_))))))))))))
 rcases au hF with⟨hc_4,hF⟩|⟨hc_4,hF⟩
 ·refine aG rfl hc_4 (ah (aa (ae (vB false) wz rfl (ak ?_))))
  obtain rfl:=aj hF
  exact aA (bv (.inr rfl) [(vB false)] ⟨rfl,trivial⟩ rfl rfl rfl)
 ·refine aC rfl hc_4 (ay (ah (ah (aa (ae (vL Entry.enc s1_1) wz rfl (dP nY rfl wz (ae (vI 0) wz rfl (ak ?_))))))))
  obtain ⟨o_13,hj_14,hF⟩:=bind_some hF
  obtain ⟨hn_9,hj_14⟩:=bJ hj_14
  refine aJ (β:=(Unit)) (λ(s_10:Unit)=>([]:SL_)) (λ(s_10:Unit)=>([]:Hp)) (λp=>o_13 = .go p) ?_ ?_
  ·refine aK (bX (β:=Nat×(List Entry)×(Unit)) (λp=>(λ(k_5:Nat) (l_6:List Entry) (s_10:Unit)=>([(1,(vL Entry.enc s2_2)),(2,(.fn 19 [])),(15,(vL Entry.enc s1_1)),(16,(vI (s1_1.length:Int))),(17,(vI (k_5:Int)))]:SL_)) p.1 p.2.1 p.2.2) (λp=>(λ(k_5:Nat) (l_6:List Entry) (s_10:Unit)=>([]:Hp)) p.1 p.2.1 p.2.2) (λp=>dR (λk x s=>aL s2_2 k x s) p.2.1 p.1 p.2.2=some o_13/\(s1_1).drop p.1=p.2.1) (λp=>p.2.1.length) (0,s1_1,()) ⟨hj_14,rfl⟩ rfl (aN rfl) ?_)
   rintro ⟨k_5,l_6,s_10⟩ ⟨hL_12,hD_8⟩
   dsimp only at hL_12 hD_8
   cases l_6 with
   | nil =>
    obtain rfl:=aj hL_12
    refine ah (aa (ae (vB (decide ((k_5:Int)<(s1_1.length:Int)))) wz rfl (ak ?_)))
    refine ah (aC rfl (drop_nil hD_8) (bT ?_))
    exact cB (s_10) rfl rfl (aN rfl)
   | cons x_7 l_6 =>
    obtain ⟨c_,hc_11,hL_12⟩:=bind_some hL_12
    refine ah (aa (ae (vB (decide ((k_5:Int)<(s1_1.length:Int)))) wz rfl (ak ?_)))
    refine ah (aG rfl (dA hD_8) (ay ?_))
    unfold aL at hc_11
    refine ah (aK (ah (aa (ae (vI (k_5:Int)) wz rfl (iH lg rfl rfl (dU hD_8) rfl wz (eO fu jK rfl (.d (.agg (Entry.enc x_7))) rfl wz (fP 0 (.inl rfl) z35 rfl wz (λn_15=>ae (vI (k_5:Int)) wz rfl (gz 0 il ft 0 fu rfl rfl [(vS x_7.Key),(vS x_7.Item),(vI x_7.Version),(vI x_7.First),(vI x_7.Last),(vI x_7.Every),(vI x_7.Days),(vL eI x_7.Except),(vI x_7.From),(vI x_7.To),(vI x_7.Prio),(vL eS x_7.Tags),(vB x_7.Gone)] rfl wz (ak (ah (aa (ae (vL Entry.enc s2_2) wz rfl (ae (vI (k_5:Int)) wz rfl ?_))))))))))))))
    obtain ⟨y_16,hy_17,hc_11⟩:=bind_some hc_11
    refine iH lg rfl rfl hy_17 rfl wz (eO fu jK rfl (.d (.agg (Entry.enc y_16))) rfl wz (fP 0 (.inl rfl) z35 rfl wz (λn_18=>gz 0 il ft 1 fu rfl rfl [(vS y_16.Key),(vS y_16.Item),(vI y_16.Version),(vI y_16.First),(vI y_16.Last),(vI y_16.Every),(vI y_16.Days),(vL eI y_16.Except),(vI y_16.From),(vI y_16.To),(vI y_16.Prio),(vL eS y_16.Tags),(vB y_16.Gone)] rfl wz (ak (ah (aa (ae (.fn 19 []) wz rfl (aB 0 0 il ft fu jK rfl rfl (.d (.agg (Entry.enc x_7))) rfl wz (aB 0 1 il ft fu jK rfl rfl (.d (.agg (Entry.enc y_16))) rfl wz ?_)))))))))
    obtain ⟨r_19,hr_20,hc_11⟩:=bind_some hc_11
    refine aF (nH hr_20) rfl hb19 rfl rfl rfl rfl wz (ae (vB (!r_19)) wz rfl (ak ?_))
    rcases au hc_11 with⟨hc_21,hc_11⟩|⟨hc_21,hc_11⟩
    ·refine aG rfl hc_21 (ah (aa (ae (vB false) wz rfl (ak ?_))))
     obtain rfl:=aj hc_11
     obtain rfl:=aj hL_12
     obtain rfl:=aj hF
     exact aA (bv (.inr rfl) [(vB false)] ⟨rfl,trivial⟩ rfl rfl rfl)
    ·refine aC rfl hc_21 (ay (aa (gX (dD hD_8 hn_9) wz rfl (ae (vI ((k_5+1:Nat):Int)) wz rfl (ak ?_)))))
     obtain rfl:=aj hc_11
     exact bO (k_5+1,l_6,()) ⟨hL_12,bg hD_8⟩ (ls_ _) rfl (aN rfl)
  ·rintro s_10 ho_ sl_ H_ hp_ hq_
   subst ho_
   refine aZ _ hp_ hq_ (ah (aa (ae (vB true) wz rfl (ak ?_))))
   obtain rfl:=aj hF
   exact aA (bv (.inr rfl) [(vB true)] ⟨rfl,trivial⟩ rfl rfl rfl)
theorem nQ {wv_1:Window} {r:Int} (hF:fw wv_1=some r) :
  FnM Tryz.prog 101 [(.d (.agg (Window.enc wv_1)))] [] (vI r) []:=by
 refine FnM.of_wH ⟨Tryz.prog,19,[],[]⟩ rfl Tryz.func101 rfl rfl (lb_ rfl) (by kernel_rfl) ?_
 unfold fw at hF
 refine ah (aa (jm 0 (.inl rfl) [(vI wv_1.From),(vI wv_1.To)] rfl rfl wz (λn_2=>ae (vI 0) wz rfl (ak (ah (ah ?_))))))
 obtain ⟨v_3,h_4,hF⟩:=bind_some hF
 refine aJ (β:=Unit) (λ_=>([(1,(.ref n_2 0 0)),(12,(vB v_3))]:SL_)) (λ_=>([(n_2,some (.cells 2 [(vI wv_1.From),(vI wv_1.To)]))]:Hp)) (λ_=>True) ?_ ?_
 ·refine aa (aD oG rfl 0 rfl wz (aB 0 0 il ft sz3 ag3 rfl rfl (vI wv_1.From) rfl wz (aD oU rfl 1 rfl wz (aB 0 0 il ft sz3 ag3 rfl rfl (vI wv_1.To) rfl wz ?_))))
  obtain ⟨r_5,hr_6,h_4⟩:=bind_some h_4
  refine aF (dC hr_6) rfl xN rfl rfl rfl rfl wz ?_
  rcases au h_4 with⟨hc_7,h_4⟩|⟨hc_7,h_4⟩
  ·refine ax rfl hc_7 wz (af wa (af wa (af wa (ae (vB true) wz rfl (ak ?_)))))
   obtain rfl:=aj h_4
   exact cu
  ·refine ax rfl hc_7 wz (aD oU rfl 1 rfl wa (aB 0 0 il ft sz3 ag3 rfl rfl (vI wv_1.To) rfl wa (ae (vB (decide (wv_1.To>345686400000))) wa rfl (ae (vB (decide (wv_1.To>345686400000))) wz rfl (ak ?_)))))
   obtain rfl:=aj h_4
   exact cu
 ·rintro ⟨⟩ _ sl_ H_ hp_ hq_
  refine aZ _ hp_ hq_ ?_
  rcases au hF with⟨hc_8,hF⟩|⟨hc_8,hF⟩
  ·refine aG rfl hc_8 (ah (aa (ae (vI 1) wz rfl (ak ?_))))
   obtain rfl:=aj hF
   exact aA (bv (.inr rfl) [(vI 1)] ⟨rfl,trivial⟩ rfl rfl rfl)
  ·refine aC rfl hc_8 (ay (ah (ah (aa (aD oU rfl 1 rfl wz (aB 0 0 il ft sz3 ag3 rfl rfl (vI wv_1.To) rfl wz (aD oG rfl 0 rfl wz (aB 0 0 il ft sz3 ag3 rfl rfl (vI wv_1.From) rfl wz (ae (vI (w64 (wv_1.To-wv_1.From))) wz rfl (ae (vB (decide ((w64 (wv_1.To-wv_1.From))>34560000000))) wz rfl (ak ?_)))))))))))
   rcases au hF with⟨hc_9,hF⟩|⟨hc_9,hF⟩
   ·refine aG rfl hc_9 (ah (aa (ae (vI 2) wz rfl (ak ?_))))
    obtain rfl:=aj hF
    exact aA (bv (.inr rfl) [(vI 2)] ⟨rfl,trivial⟩ rfl rfl rfl)
   ·refine aC rfl hc_9 (ay (ah (aa (ae (vI 0) wz rfl (ak ?_)))))
    obtain rfl:=aj hF
    exact aA (bv (.inr rfl) [(vI 0)] ⟨rfl,trivial⟩ rfl rfl rfl)
theorem nX {x_1:Int} {r:Bool} (hF:cmp_isNaN_int x_1=some r) :
  FnM Tryz.prog 169 [(vI x_1)] [] (vB r) []:=by
 refine FnM.of_wH ⟨Tryz.prog,6,[],[]⟩ rfl Tryz.func169 rfl rfl (lb_ rfl) (by kernel_rfl) ?_
 unfold cmp_isNaN_int at hF
 refine ah (aa (ae (vB false) wz rfl (ak (ah (aa (ae (vI x_1) wz rfl (ae (vI x_1) wz rfl (ae (vB (x_1 != x_1)) wz rfl (ae (vB (x_1 != x_1)) wz rfl (ak ?_))))))))))
 obtain rfl:=aj hF
 exact aA (bv (.inr rfl) [(vB (x_1 != x_1))] ⟨rfl,trivial⟩ rfl rfl rfl)
theorem vK {x_1:Int} {y_2:Int} {r:Bool} (hF:cmp_Less_int x_1 y_2=some r) :
  FnM Tryz.prog 233 [(vI x_1),(vI y_2)] [] (vB r) []:=by
 refine FnM.of_wH ⟨Tryz.prog,17,[],[]⟩ rfl Tryz.func233 rfl rfl (lb_ rfl) (by kernel_rfl) ?_
 unfold cmp_Less_int at hF
 refine ah (aa (ae (vB false) wz rfl (ak (ah ?_))))
 obtain ⟨v_3,h_4,hF⟩:=bind_some hF
 refine aJ (β:=Unit) (λ_=>([(4,(vB v_3))]:SL_)) (λ_=>([]:Hp)) (λ_=>True) ?_ ?_
 ·refine aa (ae (vI x_1) wz rfl ?_)
  obtain ⟨r_5,hr_6,h_4⟩:=bind_some h_4
  refine aF (nX hr_6) rfl hb169 rfl rfl rfl rfl wz ?_
  rcases au h_4 with⟨hc_7,h_4⟩|⟨hc_7,h_4⟩
  ·refine ax rfl hc_7 wz (ae (vI y_2) wa rfl ?_)
   obtain ⟨r_8,hr_9,h_4⟩:=bind_some h_4
   refine aF (nX hr_9) rfl hb169 rfl rfl rfl rfl wa (ae (vB (!r_8)) wa rfl (ae (vB (!r_8)) wz rfl ?_))
   rcases au h_4 with⟨hc_10,h_4⟩|⟨hc_10,h_4⟩
   ·refine ax rfl hc_10 wz (af wa (af wa (af wa (ae (vB true) wz rfl (ae (vB true) wz rfl (ak ?_))))))
    obtain rfl:=aj h_4
    exact cu
   ·refine ax rfl hc_10 wz (ae (vI x_1) wa rfl (ae (vI y_2) wa rfl (ae (vB (decide (x_1<y_2))) wa rfl (ae (vB (decide (x_1<y_2))) wz rfl (ae (vB (decide (x_1<y_2))) wz rfl (ak ?_))))))
    obtain rfl:=aj h_4
    exact cu
  ·refine ax rfl hc_7 wz (af wa (af wa (af wa (ae (vB false) wz rfl (ae (vB false) wz rfl (ae (vI x_1) wa rfl (ae (vI y_2) wa rfl (ae (vB (decide (x_1<y_2))) wa rfl (ae (vB (decide (x_1<y_2))) wz rfl (ae (vB (decide (x_1<y_2))) wz rfl (ak ?_)))))))))))
   obtain rfl:=aj h_4
   exact cu
 ·rintro ⟨⟩ _ sl_ H_ hp_ hq_
  refine aZ _ hp_ hq_ ?_
  obtain rfl:=aj hF
  exact aA (bv (.inr rfl) [(vB v_3)] ⟨rfl,trivial⟩ rfl rfl rfl)
theorem lK {x_1:Int} {r:Bool} (hF:fT x_1=some r) :
  FnM Tryz.prog 249 [(vI x_1)] [] (vB r) []:=by
 refine FnM.of_wH ⟨Tryz.prog,6,[],[]⟩ rfl Tryz.func249 rfl rfl (lb_ rfl) (by kernel_rfl) ?_
 unfold fT at hF
 refine ah (aa (ae (vB false) wz rfl (ak (ah (aa (ae (vI x_1) wz rfl (ae (vI x_1) wz rfl (ae (vB (x_1 != x_1)) wz rfl (ae (vB (x_1 != x_1)) wz rfl (ak ?_))))))))))
 obtain rfl:=aj hF
 exact aA (bv (.inr rfl) [(vB (x_1 != x_1))] ⟨rfl,trivial⟩ rfl rfl rfl)
theorem kL {x_1:(List Int)} {target_2:Int} {r:Int×Bool} (hF:cZ x_1 target_2=some r) :
  FnM Tryz.prog 206 [(vL eI x_1),(vI target_2)] [] (.tup [(vI r.1),(vB r.2)]) []:=by
 refine FnM.of_wH ⟨Tryz.prog,54,[],[]⟩ rfl Tryz.func206 rfl rfl (lb_ rfl) (by kernel_rfl) ?_
 unfold cZ at hF
 refine ah (aa (ae (vI 0) wz rfl (ae (vB false) wz rfl (ak (ah (aa (ae (vL eI x_1) wz rfl (dP qj rfl wz (ae (vI (x_1.length:Int)) wz rfl (ak (ah (aa (ae (vI (x_1.length:Int)) wz rfl (ae (vI 0) wz rfl (ae (vI (x_1.length:Int)) wz rfl (ak (ah ?_)))))))))))))))))
 obtain ⟨o_11,hj_12,hF⟩:=bind_some hF
 obtain ⟨nq_34,hj_12⟩:=kQ hj_12
 refine aJ (β:=(Int×Int)) (λ(s_8:Int×Int)=>([(0,(vL eI x_1)),(1,(vI target_2)),(6,(vI (x_1.length:Int))),(7,(vI s_8.1))]:SL_)) (λ(s_8:Int×Int)=>([]:Hp)) (λp=>o_11 = .go p) ?_ ?_
 ·refine aK (bX (β:=Nat×(Int×Int)) (λp=>(λ(k_3:Nat) (s_8:Int×Int)=>([(0,(vL eI x_1)),(1,(vI target_2)),(6,(vI (x_1.length:Int))),(7,(vI s_8.1)),(8,(vI s_8.2))]:SL_)) p.1 p.2) (λp=>(λ(k_3:Nat) (s_8:Int×Int)=>([]:Hp)) p.1 p.2) (λp=>fM (λs=>aW x_1 target_2 s) p.1 p.2=some o_11) (λp=>p.1) (nq_34,(0,(x_1.length:Int))) hj_12 rfl (aN rfl) ?_)
  rintro ⟨k_3,s_8⟩ hL_10
  dsimp only at hL_10
  cases k_3 with
  | zero=>cases hL_10
  | succ k_3 =>
   obtain ⟨c_,hc_9,hL_10⟩:=bind_some hL_10
   unfold aW at hc_9
   refine ah (ah (aa (ae (vI s_8.1) wz rfl (ae (vI s_8.2) wz rfl (ae (vB (decide (s_8.1<s_8.2))) wz rfl (ak ?_))))))
   rcases au hc_9 with⟨hc_13,hc_9⟩|⟨hc_13,hc_9⟩
   ·refine aG rfl hc_13 (ay (aK (ah (aa (ae (vI s_8.1) wz rfl (ae (vI s_8.2) wz rfl (ae (vI (w64 (s_8.1+s_8.2))) wz rfl (wU un3 FD rfl wz ?_))))))))
    obtain ⟨q_14,hz_15,hc_9⟩:=bind_some hc_9
    refine Dh rfl rfl hz_15 wz (wU FD un3 rfl wz (ae (vI (w64 q_14)) wz rfl (ak (ah (aa (ae (vL eI x_1) wz rfl (ae (vI (w64 q_14)) wz rfl ?_)))))))
    obtain ⟨y_16,hy_17,hc_9⟩:=bind_some hc_9
    refine iH kw rfl rfl hy_17 rfl wz (eO sz3 ag3 rfl (vI y_16) rfl wz (ae (vI target_2) wz rfl ?_))
    obtain ⟨r_18,hr_19,hc_9⟩:=bind_some hc_9
    refine aF (vK hr_19) rfl hb233 rfl rfl rfl rfl wz (ak ?_)
    rcases au hc_9 with⟨hc_20,hc_9⟩|⟨hc_20,hc_9⟩
    ·refine aG rfl hc_20 (aa (ae (vI (w64 q_14)) wz rfl (ae (vI (w64 ((w64 q_14)+1))) wz rfl (ae (vI (w64 ((w64 q_14)+1))) wz rfl (ak ?_)))))
     obtain rfl:=aj hc_9
     exact bO (k_3,((w64 ((w64 q_14)+1)),s_8.2)) hL_10 (ls_ _) rfl (aN rfl)
    ·refine aC rfl hc_20 (aa (ae (vI (w64 q_14)) wz rfl (ae (vI (w64 q_14)) wz rfl (ak ?_))))
     obtain rfl:=aj hc_9
     exact bO (k_3,(s_8.1,(w64 q_14))) hL_10 (ls_ _) rfl (aN rfl)
   ·refine aC rfl hc_13 (bT ?_)
    obtain rfl:=aj hc_9
    obtain rfl:=aj hL_10
    exact cB ((s_8.1,s_8.2)) rfl rfl (aN rfl)
 ·rintro s_8 ho_ sl_ H_ hp_ hq_
  subst ho_
  refine aZ _ hp_ hq_ (ah ?_)
  obtain ⟨v_21,h_22,hF⟩:=bind_some hF
  refine aJ (β:=Unit) (λ_=>([(4,(vI s_8.1)),(5,(vB v_21))]:SL_)) (λ_=>([]:Hp)) (λ_=>True) ?_ ?_
  ·refine aa (ae (vI s_8.1) wz rfl (ae (vI s_8.1) wz rfl (ae (vI (x_1.length:Int)) wz rfl (ae (vB (decide (s_8.1<(x_1.length:Int)))) wz rfl ?_))))
   rcases au h_22 with⟨hc_23,h_22⟩|⟨hc_23,h_22⟩
   ·refine ax rfl hc_23 wz (ae (vL eI x_1) wa rfl (ae (vI s_8.1) wa rfl ?_))
    obtain ⟨y_24,hy_25,h_22⟩:=bind_some h_22
    refine iH kw rfl rfl hy_25 rfl wa (eO sz3 ag3 rfl (vI y_24) rfl wa (ae (vI target_2) wa rfl (ae (vB (y_24==target_2)) wa rfl ?_)))
    rcases au h_22 with⟨hc_26,h_22⟩|⟨hc_26,h_22⟩
    ·refine ax rfl hc_26 wa (af wa (af wa (af wa (af wa (af wa (af wa (af (wn rfl rfl) (af (wn rfl rfl) (af wa (ae (vB true) wa rfl (ae (vB true) wz rfl (ae (vI s_8.1) wz rfl (ae (vB true) wz rfl (ak ?_))))))))))))))
     obtain rfl:=aj h_22
     exact cu
    ·refine ax rfl hc_26 wa (ae (vL eI x_1) wa rfl (ae (vI s_8.1) wa rfl ?_))
     obtain ⟨y_27,hy_28,h_22⟩:=bind_some h_22
     refine iH kw rfl rfl hy_28 rfl wa (eO sz3 ag3 rfl (vI y_27) rfl wa ?_)
     obtain ⟨r_29,hr_30,h_22⟩:=bind_some h_22
     refine aF (lK hr_30) rfl hb249 rfl rfl rfl rfl wa ?_
     rcases au h_22 with⟨hc_31,h_22⟩|⟨hc_31,h_22⟩
     ·refine ax rfl hc_31 wa (ae (vI target_2) wa rfl ?_)
      obtain ⟨r_32,hr_33,h_22⟩:=bind_some h_22
      refine aF (lK hr_33) rfl hb249 rfl rfl rfl rfl wa (ae (vB r_32) wa rfl (ae (vB r_32) wa rfl (ae (vB r_32) wz rfl (ae (vI s_8.1) wz rfl (ae (vB r_32) wz rfl (ak ?_))))))
      obtain rfl:=aj h_22
      exact cu
     ·refine ax rfl hc_31 wa (af wa (af wa (ae (vB false) wa rfl (ae (vB false) wa rfl (ae (vB false) wz rfl (ae (vI s_8.1) wz rfl (ae (vB false) wz rfl (ak ?_))))))))
      obtain rfl:=aj h_22
      exact cu
   ·refine ax rfl hc_23 wz (af wa (af wa (af wa (af wa (af wa (af wa (af wa (af (wn rfl rfl) (af (wn rfl rfl) (af (wn rfl rfl) (af (wn rfl rfl) (af (wn rfl rfl) (af (wn rfl rfl) (af (wn rfl rfl) (af (wn rfl rfl) (af (wn rfl rfl) (af wa (ae (vB false) wz rfl (ae (vI s_8.1) wz rfl (ae (vB false) wz rfl (ak ?_)))))))))))))))))))))
    obtain rfl:=aj h_22
    exact cu
  ·rintro ⟨⟩ _ sl_ H_ hp_ hq_
   refine aZ _ hp_ hq_ ?_
   obtain rfl:=aj hF
   exact aA (bv (.inr rfl) [(vI s_8.1),(vB v_21)] ⟨rfl,⟨rfl,trivial⟩⟩ rfl rfl rfl)
theorem tZ {e_1:Entry} {d_2:Int} {r:Bool} (hF:ja e_1 d_2=some r) :
  FnM Tryz.prog 152 [(.d (.agg (Entry.enc e_1))),(vI d_2)] [] (vB r) []:=by
 refine FnM.of_wH ⟨Tryz.prog,41,[],[]⟩ rfl Tryz.func152 rfl rfl (lb_ rfl) (by kernel_rfl) ?_
 unfold ja at hF
 refine ah (aa (jm 0 (.inl rfl) [(vS e_1.Key),(vS e_1.Item),(vI e_1.Version),(vI e_1.First),(vI e_1.Last),(vI e_1.Every),(vI e_1.Days),(vL eI e_1.Except),(vI e_1.From),(vI e_1.To),(vI e_1.Prio),(vL eS e_1.Tags),(vB e_1.Gone)] rfl rfl wz (λn_3=>ae (vB false) wz rfl (ak (ah (ah ?_))))))
 obtain ⟨v_4,h_5,hF⟩:=bind_some hF
 refine aJ (β:=Unit) (λ_=>([(1,(vI d_2)),(2,(.ref n_3 0 0)),(31,(vB v_4))]:SL_)) (λ_=>([(n_3,some (.cells 13 [(vS e_1.Key),(vS e_1.Item),(vI e_1.Version),(vI e_1.First),(vI e_1.Last),(vI e_1.Every),(vI e_1.Days),(vL eI e_1.Except),(vI e_1.From),(vI e_1.To),(vI e_1.Prio),(vL eS e_1.Tags),(vB e_1.Gone)]))]:Hp)) (λ_=>True) ?_ ?_
 ·refine fC (ae (vI d_2) wz rfl (aD mZ rfl 3 rfl wz (aB 2 0 (.inr (by kernel_rfl)) (λ_ _ ag=>trivial) sz3 ag3 rfl rfl (vI e_1.First) rfl wz (aD lZ rfl 4 rfl wz (aB 4 0 (.inr (by kernel_rfl)) (λ_ _ ag=>⟨.inl ⟨rfl,rfl⟩,trivial⟩) sz3 ag3 rfl rfl (vI e_1.Last) rfl wz ?_)))))
  obtain ⟨r_6,hr_7,h_5⟩:=bind_some h_5
  refine aF (dC hr_7) rfl xN rfl rfl rfl rfl wz ?_
  rcases au h_5 with⟨hc_8,h_5⟩|⟨hc_8,h_5⟩
  ·refine ax rfl hc_8 wz (af wa (af wa (af wa (af wa (af wa (af wa (af wa (af wa (ae (vB true) wz rfl (ae (vB true) wz rfl (af wa (af wa (af wa (af wa (af wa (af wa (af wa (ae (vB true) wz rfl (ak ?_)))))))))))))))))))
   obtain rfl:=aj h_5
   exact cu
  ·refine ax rfl hc_8 wz (ae (vI d_2) wa rfl (aD mZ rfl 3 rfl wa (aB 9 0 (.inr (by kernel_rfl)) (λ_ _ ag=>⟨.inl ⟨rfl,rfl⟩,⟨.inl ⟨rfl,rfl⟩,trivial⟩⟩) sz3 ag3 rfl rfl (vI e_1.First) rfl wa (ae (vI (w64 (d_2-e_1.First))) wa rfl (aD rE rfl 5 rfl wa (aB 12 0 (.inr (by kernel_rfl)) (λ_ _ ag=>⟨.inl ⟨rfl,rfl⟩,⟨.inl ⟨rfl,rfl⟩,⟨.inl ⟨rfl,rfl⟩,trivial⟩⟩⟩) sz3 ag3 rfl rfl (vI e_1.Every) rfl wa ?_))))))
   obtain ⟨q_9,hz_10,h_5⟩:=bind_some h_5
   refine EX rfl rfl hz_10 wa (ae (vB (q_9 != 0)) wa rfl (ae (vB (q_9 != 0)) wz rfl ?_))
   rcases au h_5 with⟨hc_11,h_5⟩|⟨hc_11,h_5⟩
   ·refine ax rfl hc_11 wz (af wa (af wa (af wa (af wa (af wa (af wa (af wa (ae (vB true) wz rfl (ak ?_)))))))))
    obtain rfl:=aj h_5
    exact cu
   ·refine ax rfl hc_11 wz (aD rR rfl 6 rfl wa (aB 18 0 (.inr (by kernel_rfl)) (λ_ _ ag=>⟨.inl ⟨rfl,rfl⟩,⟨.inl ⟨rfl,rfl⟩,⟨.inl ⟨rfl,rfl⟩,⟨.inl ⟨rfl,rfl⟩,trivial⟩⟩⟩⟩) sz3 ag3 rfl rfl (vI e_1.Days) rfl wa (ae (vI d_2) wa rfl (ae (vI (d_2.tmod 7)) wa rfl ?_))))
    obtain ⟨q_12,hz_13,h_5⟩:=bind_some h_5
    refine h_shl rfl rfl hz_13 wa (ae (vI (wP .i64 e_1.Days q_12)) wa rfl (ae (vB ((wP .i64 e_1.Days q_12)==0)) wa rfl (ae (vB ((wP .i64 e_1.Days q_12)==0)) wz rfl (ak ?_))))
    obtain rfl:=aj h_5
    exact cu
 ·rintro ⟨⟩ _ sl_ H_ hp_ hq_
  refine aZ _ hp_ hq_ ?_
  rcases au hF with⟨hc_14,hF⟩|⟨hc_14,hF⟩
  ·refine aG rfl hc_14 (ah (aa (ae (vB false) wz rfl (ak ?_))))
   obtain rfl:=aj hF
   exact aA (bv (.inr rfl) [(vB false)] ⟨rfl,trivial⟩ rfl rfl rfl)
  ·refine aC rfl hc_14 (ay (ah (aa (aD iU rfl 7 rfl wz (aB 0 0 il ft mK pV rfl rfl (vL eI e_1.Except) rfl wz (ae (vI d_2) wz rfl ?_))))))
   obtain ⟨r_15,hr_16,hF⟩:=bind_some hF
   refine aF (kL hr_16) rfl hb206 rfl rfl rfl rfl wz (ae (.tup [(vI r_15.1),(vB r_15.2)]) wz rfl (ae (vI r_15.1) wz rfl (ae (vB r_15.2) wz rfl (ae (vI r_15.1) wz rfl (ae (vB r_15.2) wz rfl (ak (ah (aa (ae (vB r_15.2) wz rfl (ae (vB (!r_15.2)) wz rfl (ae (vB (!r_15.2)) wz rfl (ak ?_))))))))))))
   obtain rfl:=aj hF
   exact aA (bv (.inr rfl) [(vB (!r_15.2))] ⟨rfl,trivial⟩ rfl rfl rfl)
theorem ry {e_1:Entry} {zone_2:Int} {d_3:Int} {r:Window} (hF:iI e_1 zone_2 d_3=some r) :
  FnM Tryz.prog 153 [(.d (.agg (Entry.enc e_1))),(vI zone_2),(vI d_3)] [] (.d (.agg (Window.enc r))) []:=by
 refine FnM.of_wH ⟨Tryz.prog,32,[],[]⟩ rfl Tryz.func153 rfl rfl (lb_ rfl) (by kernel_rfl) ?_
 unfold iI at hF
 refine ah (aa (jm 0 (.inl rfl) [(vS e_1.Key),(vS e_1.Item),(vI e_1.Version),(vI e_1.First),(vI e_1.Last),(vI e_1.Every),(vI e_1.Days),(vL eI e_1.Except),(vI e_1.From),(vI e_1.To),(vI e_1.Prio),(vL eS e_1.Tags),(vB e_1.Gone)] rfl rfl wz (λn_4=>fP 0 (.inl rfl) z49 rfl wz (λn_5=>ak (ah (aa (aD rA rfl 9 rfl wz (aB 0 0 il ft sz3 ag3 rfl rfl (vI e_1.To) rfl wz (aD pQ rfl 8 rfl wz (aB 0 0 il ft sz3 ag3 rfl rfl (vI e_1.From) rfl wz (ae (vI (w64 (e_1.To-e_1.From))) wz rfl (ae (vI (w64 (e_1.To-e_1.From))) wz rfl (ak (ah (ah (aa (ae (vI (w64 (e_1.To-e_1.From))) wz rfl (ae (vB (decide ((w64 (e_1.To-e_1.From))<=0))) wz rfl (ak ?_)))))))))))))))))))
 obtain ⟨v_6,h_7,hF⟩:=bind_some hF
 refine aJ (β:=Unit) (λ_=>([(1,(vI zone_2)),(2,(vI d_3)),(3,(.ref n_4 0 0)),(6,(.ref n_5 0 0)),(7,(vI v_6))]:SL_)) (λ_=>([(n_4,some (.cells 13 [(vS e_1.Key),(vS e_1.Item),(vI e_1.Version),(vI e_1.First),(vI e_1.Last),(vI e_1.Every),(vI e_1.Days),(vL eI e_1.Except),(vI e_1.From),(vI e_1.To),(vI e_1.Prio),(vL eS e_1.Tags),(vB e_1.Gone)])),(n_5,some (.cells 2 [(vI 0),(vI 0)]))]:Hp)) (λ_=>True) ?_ ?_
 ·rcases au h_7 with⟨hc_8,h_7⟩|⟨hc_8,h_7⟩
  ·refine aG rfl hc_8 (aa (ae (vI (w64 (e_1.To-e_1.From))) wz rfl (ae (vI (w64 ((w64 (e_1.To-e_1.From))+1440))) wz rfl (ae (vI (w64 ((w64 (e_1.To-e_1.From))+1440))) wz rfl (ak ?_)))))
   obtain rfl:=aj h_7
   exact cu
  ·refine aC rfl hc_8 (ay ?_)
   obtain rfl:=aj h_7
   exact cu
 ·rintro ⟨⟩ _ sl_ H_ hp_ hq_
  refine aZ _ hp_ hq_ (ah (aa (ae (vI d_3) wz rfl (ae (vI (w64 (d_3*1440))) wz rfl (aD pQ rfl 8 rfl wz (aB 0 0 il ft sz3 ag3 rfl rfl (vI e_1.From) rfl wz (ae (vI (w64 ((w64 (d_3*1440))+e_1.From))) wz rfl (ae (vI zone_2) wz rfl (ae (vI (w64 ((w64 ((w64 (d_3*1440))+e_1.From))-zone_2))) wz rfl (ae (vI (w64 ((w64 ((w64 ((w64 (d_3*1440))+e_1.From))-zone_2))*60000))) wz rfl (ae (vI (w64 ((w64 ((w64 ((w64 (d_3*1440))+e_1.From))-zone_2))*60000))) wz rfl (ak (ah (aa (ae (vI (w64 ((w64 ((w64 ((w64 (d_3*1440))+e_1.From))-zone_2))*60000))) wz rfl (ae (vI (w64 ((w64 ((w64 ((w64 (d_3*1440))+e_1.From))-zone_2))*60000))) wz rfl (ae (vI v_6) wz rfl (ae (vI (w64 (v_6*60000))) wz rfl (ae (vI (w64 ((w64 ((w64 ((w64 ((w64 (d_3*1440))+e_1.From))-zone_2))*60000))+(w64 (v_6*60000))))) wz rfl (ae (.d (.agg (Window.enc (⟨(w64 ((w64 ((w64 ((w64 (d_3*1440))+e_1.From))-zone_2))*60000)),(w64 ((w64 ((w64 ((w64 ((w64 (d_3*1440))+e_1.From))-zone_2))*60000))+(w64 (v_6*60000))))⟩:Window)))) wz (by kernel_rfl) (gz 0 il ft 1 tV rfl rfl [(vI (w64 ((w64 ((w64 ((w64 (d_3*1440))+e_1.From))-zone_2))*60000))),(vI (w64 ((w64 ((w64 ((w64 ((w64 (d_3*1440))+e_1.From))-zone_2))*60000))+(w64 (v_6*60000)))))] rfl wz (ak ?_))))))))))))))))))))))
  obtain rfl:=aj hF
  exact aA (bv (.inr rfl) [(.d (.agg (Window.enc (⟨(w64 ((w64 ((w64 ((w64 (d_3*1440))+e_1.From))-zone_2))*60000)),(w64 ((w64 ((w64 ((w64 ((w64 (d_3*1440))+e_1.From))-zone_2))*60000))+(w64 (v_6*60000))))⟩:Window))))] ⟨⟨1,_,_,_,_,_,_,_,rfl,rfl,tV,AZ,rfl⟩,trivial⟩ rfl rfl rfl)
end Go.Proofs.YtnjnggakgeommaaGreatDoor.Law

