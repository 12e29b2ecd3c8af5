/-
 The machine computes these plain functions (written by a program of ours).
-/
import Derived.Test.YtdenjndllgahgaaGreatDoorFacts
import Derived.Test.YtdenjndllgahgaaGreatDoorDefs
import Derived.Test.YtdenjndllgahgaaGreatDoorPf1
import Derived.Test.YtdenjndllgahgaaGreatDoorShelf
open Go Go.Eng Go.Proofs
namespace Go.Proofs.YtdenjndllgahgaaGreatDoor.Law
set_option maxRecDepth 100000
set_option linter.unusedVariables false
set_option maxHeartbeats 1000000
theorem lS {x_1:Int} {y_2:Int} {r:Int} (hF:cmp_Compare_int x_1 y_2=some r) :
  FnM Tryz.prog 118 [(vI x_1),(vI y_2)] [] (vI r) []:=by
 refine FnM.of_wH ⟨Tryz.prog,20,[],[]⟩ rfl Tryz.func118 rfl rfl (lb_ rfl) (by kernel_rfl) ?_
 unfold cmp_Compare_int at hF
 refine af (aa (ae (vI 0) wz rfl (ai (af (aa (ae (vI x_1) wz rfl ?_))))))
 obtain ⟨r_3,hr_4,hF⟩:=bind_some hF
 refine au (mW hr_4) rfl hb147 rfl rfl rfl rfl wz (ae (vB r_3) wz rfl (ai (af (aa (ae (vI y_2) wz rfl ?_)))))
 obtain ⟨r_5,hr_6,hF⟩:=bind_some hF
 refine au (mW hr_6) rfl hb147 rfl rfl rfl rfl wz (ae (vB r_5) wz rfl (ai (af (af (aa (ae (vB r_3) wz rfl (ai ?_)))))))
 rcases aj hF with⟨hc_7,hF⟩|⟨hc_7,hF⟩
 ·refine ay rfl hc_7 (af (af (aa (ae (vB r_5) wz rfl (ai ?_)))))
  rcases aj hF with⟨hc_8,hF⟩|⟨hc_8,hF⟩
  ·refine ay rfl hc_8 (af (aa (ae (vI 0) wz rfl (ai ?_))))
   obtain rfl:=ah hF
   exact av (aQ (.inr rfl) [(vI 0)] ⟨rfl,trivial⟩ rfl rfl rfl)
  ·refine aA rfl hc_8 (ax (af (aa (ae (vI (-1)) wz rfl (ai ?_)))))
   obtain rfl:=ah hF
   exact av (aQ (.inr rfl) [(vI (-1))] ⟨rfl,trivial⟩ rfl rfl rfl)
 ·refine aA rfl hc_7 (ax (af (af (aa (ae (vB r_5) wz rfl (ai ?_))))))
  rcases aj hF with⟨hc_9,hF⟩|⟨hc_9,hF⟩
  ·refine ay rfl hc_9 (af (aa (ae (vI 1) wz rfl (ai ?_))))
   obtain rfl:=ah hF
   exact av (aQ (.inr rfl) [(vI 1)] ⟨rfl,trivial⟩ rfl rfl rfl)
  ·refine aA rfl hc_9 (ax (af (af (aa (ae (vI x_1) wz rfl (ae (vI y_2) wz rfl (ae (vB (decide (x_1<y_2))) wz rfl (ai ?_))))))))
   rcases aj hF with⟨hc_10,hF⟩|⟨hc_10,hF⟩
   ·refine ay rfl hc_10 (af (aa (ae (vI (-1)) wz rfl (ai ?_))))
    obtain rfl:=ah hF
    exact av (aQ (.inr rfl) [(vI (-1))] ⟨rfl,trivial⟩ rfl rfl rfl)
   ·refine aA rfl hc_10 (ax (af (af (aa (ae (vI x_1) wz rfl (ae (vI y_2) wz rfl (ae (vB (decide (x_1>y_2))) wz rfl (ai ?_))))))))
    rcases aj hF with⟨hc_11,hF⟩|⟨hc_11,hF⟩
    ·refine ay rfl hc_11 (af (aa (ae (vI 1) wz rfl (ai ?_))))
     obtain rfl:=ah hF
     exact av (aQ (.inr rfl) [(vI 1)] ⟨rfl,trivial⟩ rfl rfl rfl)
    ·refine aA rfl hc_11 (ax (af (aa (ae (vI 0) wz rfl (ai ?_)))))
     obtain rfl:=ah hF
     exact av (aQ (.inr rfl) [(vI 0)] ⟨rfl,trivial⟩ rfl rfl rfl)
theorem qC {vals_1:(List Int)} {r:Int} (hF:jZ vals_1=some r) :
  FnM Tryz.prog 117 [(vL eI vals_1)] [] (vI r) []:=by
 refine FnM.of_wH ⟨Tryz.prog,18,[],[]⟩ rfl Tryz.func117 rfl rfl (lb_ rfl) (by kernel_rfl) ?_
 unfold jZ at hF
 refine af (aa (ae (vI 0) wz rfl (ai (af (aa (ae (vI 0) wz rfl (ai (af (af (aa (ae (vL eI vals_1) wz rfl (bS CK rfl wz (ae (vI 0) wz rfl (ai ?_))))))))))))))
 obtain ⟨o_10,hj_11,hF⟩:=bind_some hF
 obtain ⟨hn_6,hj_11⟩:=dx hj_11
 refine aD (β:=(Unit)) (λ(s_7:Unit)=>([(3,(vI 0))]:SL_)) (λ(s_7:Unit)=>([]:Hp)) (λp=>o_10 = .go p) ?_ ?_
 ·refine aF (bI (β:=Nat×(List Int)×(Unit)) (λp=>(λ(k_2:Nat) (l_3:List Int) (s_7:Unit)=>([(3,(vI 0)),(6,(vL eI vals_1)),(7,(vI (vals_1.length:Int))),(8,(vI (k_2:Int)))]:SL_)) p.1 p.2.1 p.2.2) (λp=>(λ(k_2:Nat) (l_3:List Int) (s_7:Unit)=>([]:Hp)) p.1 p.2.1 p.2.2) (λp=>dW (λk x s=>ku k x s) p.2.1 p.1 p.2.2=some o_10/\(vals_1).drop p.1=p.2.1) (λp=>p.2.1.length) (0,vals_1,()) ⟨hj_11,rfl⟩ rfl (aI rfl) ?_)
  rintro ⟨k_2,l_3,s_7⟩ ⟨hL_9,hD_5⟩
  dsimp only at hL_9 hD_5
  cases l_3 with
  | nil =>
   obtain rfl:=ah hL_9
   refine af (aa (ae (vB (decide ((k_2:Int)<(vals_1.length:Int)))) wz rfl (ai ?_)))
   refine af (aA rfl (drop_nil hD_5) (bA ?_))
   exact bg (s_7) rfl rfl (aI rfl)
  | cons x_4 l_3 =>
   obtain ⟨c_,hc_8,hL_9⟩:=bind_some hL_9
   refine af (aa (ae (vB (decide ((k_2:Int)<(vals_1.length:Int)))) wz rfl (ai ?_)))
   refine af (ay rfl (eG hD_5) (ax ?_))
   unfold ku at hc_8
   refine af (aF (af (aa (fB sZ rfl rfl (fe hD_5) rfl wz (di sz3 ag3 rfl (vI x_4) rfl wz (ae (vI x_4) wz rfl (ai (af (aa (ae (vI x_4) wz rfl (ae (vI 0) wz rfl (ae (vB (x_4 != 0)) wz rfl (ai ?_)))))))))))))
   rcases aj hc_8 with⟨hc_12,hc_8⟩|⟨hc_12,hc_8⟩
   ·refine ay rfl hc_12 (af (aa (ae (vI x_4) wz rfl (ae (vI x_4) wz rfl (ai ?_)))))
    obtain rfl:=ah hc_8
    obtain rfl:=ah hL_9
    obtain rfl:=ah hF
    exact av (aQ (.inr rfl) [(vI x_4)] ⟨rfl,trivial⟩ rfl rfl rfl)
   ·refine aA rfl hc_12 (ax (aa (kF (fu hD_5 hn_6) wz rfl (ae (vI ((k_2+1:Nat):Int)) wz rfl (ai ?_)))))
    obtain rfl:=ah hc_8
    exact bB (k_2+1,l_3,()) ⟨hL_9,bT hD_5⟩ (ls_ _) rfl (aI rfl)
 ·rintro s_7 ho_ sl_ H_ hp_ hq_
  subst ho_
  refine aL _ hp_ hq_ (af (aa (ae (vI 0) wz rfl (ae (vI 0) wz rfl (ai ?_)))))
  obtain rfl:=ah hF
  exact av (aQ (.inr rfl) [(vI 0)] ⟨rfl,trivial⟩ rfl rfl rfl)
theorem pE {a_1:Log_} {b_2:Log_} {r:Int} (hF:fw a_1 b_2=some r) :
  FnM Tryz.prog 80 [(.d (.agg (Log_.enc a_1))),(.d (.agg (Log_.enc b_2)))] [] (vI r) []:=by
 refine FnM.of_wH ⟨Tryz.prog,17,[],[]⟩ rfl Tryz.func80 rfl rfl (lb_ rfl) (by kernel_rfl) ?_
 unfold fw at hF
 refine af (aa (kN 0 (.inl rfl) [(vS a_1.Player),(vS a_1.Item),(vI a_1.No),(vI a_1.Clock),(vI a_1.Long),(vS a_1.Sum)] rfl rfl wz (λn_3=>kN 0 (.inl rfl) [(vS b_2.Player),(vS b_2.Item),(vI b_2.No),(vI b_2.Clock),(vI b_2.Long),(vS b_2.Sum)] rfl rfl wz (λn_4=>ae (vI 0) wz rfl (ai (af (dw (aN kU rfl 0 rfl wz (aK 1 0 (.inr (by kernel_rfl)) (λ_ _ ag=>trivial) sz9 ag9 rfl rfl (vS a_1.Player) rfl wz (aN kU rfl 0 rfl wz (aK 3 1 (.inr (by kernel_rfl)) (λ_ _ ag=>⟨.inl ⟨rfl,rfl⟩,trivial⟩) sz9 ag9 rfl rfl (vS b_2.Player) rfl wz ?_)))))))))))
 obtain ⟨r_5,hr_6,hF⟩:=bind_some hF
 refine au (jb hr_6) rfl DN rfl rfl rfl rfl wz (aN nP rfl 2 rfl wz (aK 6 0 (.inr (by kernel_rfl)) (λ_ _ ag=>⟨.inl ⟨rfl,rfl⟩,⟨.inl ⟨rfl,rfl⟩,trivial⟩⟩) sz3 ag3 rfl rfl (vI a_1.No) rfl wz (aN nP rfl 2 rfl wz (aK 8 1 (.inr (by kernel_rfl)) (λ_ _ ag=>⟨.inl ⟨rfl,rfl⟩,⟨.inl ⟨rfl,rfl⟩,⟨.inl ⟨rfl,rfl⟩,trivial⟩⟩⟩) sz3 ag3 rfl rfl (vI b_2.No) rfl wz ?_))))
 obtain ⟨r_7,hr_8,hF⟩:=bind_some hF
 refine au (lS hr_8) rfl hb118 rfl rfl rfl rfl wz (dC (([r_5,r_7]:List Int).map eI) sZ y5 rfl rfl rfl rfl rfl wz ?_)
 obtain ⟨r_9,hr_10,hF⟩:=bind_some hF
 refine au (qC hr_10) rfl hb117 rfl rfl rfl rfl wz (ae (vI r_9) wz rfl (ai ?_))
 obtain rfl:=ah hF
 exact av (aQ (.inr rfl) [(vI r_9)] ⟨rfl,trivial⟩ rfl rfl rfl)
theorem lM {l_1:(List Log_)} {r:Int} (hF:eZ l_1=some r) :
  FnM Tryz.prog 39 [(vL Log_.enc l_1)] [] (vI r) []:=by
 refine FnM.of_wH ⟨Tryz.prog,38,[],[]⟩ rfl Tryz.func39 rfl rfl (lb_ rfl) (by kernel_rfl) ?_
 unfold eZ at hF
 refine af (aa (ae (vI 0) wz rfl (ai (af (af (aa (ae (vL Log_.enc l_1) wz rfl (bS rR rfl wz (ae (vB (decide ((l_1.length:Int)>2000))) wz rfl (ai ?_))))))))))
 rcases aj hF with⟨hc_2,hF⟩|⟨hc_2,hF⟩
 ·refine ay rfl hc_2 (af (aa (ae (vI 2) wz rfl (ai ?_))))
  obtain rfl:=ah hF
  exact av (aQ (.inr rfl) [(vI 2)] ⟨rfl,trivial⟩ rfl rfl rfl)
 ·refine aA rfl hc_2 (ax (af (af (aa (ae (vL Log_.enc l_1) wz rfl (bS rR rfl wz (ae (vI 0) wz rfl (ai ?_))))))))
  obtain ⟨o_11,hj_12,hF⟩:=bind_some hF
  obtain ⟨hn_7,hj_12⟩:=dx hj_12
  refine aD (β:=(Unit)) (λ(s_8:Unit)=>([]:SL_)) (λ(s_8:Unit)=>([]:Hp)) (λp=>o_11 = .go p) ?_ ?_
  ·refine aF (bI (β:=Nat×(List Log_)×(Unit)) (λp=>(λ(k_3:Nat) (l_4:List Log_) (s_8:Unit)=>([(0,(vL Log_.enc l_1)),(9,(vL Log_.enc l_1)),(10,(vI (l_1.length:Int))),(11,(vI (k_3:Int)))]:SL_)) p.1 p.2.1 p.2.2) (λp=>(λ(k_3:Nat) (l_4:List Log_) (s_8:Unit)=>([]:Hp)) p.1 p.2.1 p.2.2) (λp=>dW (λk x s=>gy l_1 k x s) p.2.1 p.1 p.2.2=some o_11/\(l_1).drop p.1=p.2.1) (λp=>p.2.1.length) (0,l_1,()) ⟨hj_12,rfl⟩ rfl (aI rfl) ?_)
   rintro ⟨k_3,l_4,s_8⟩ ⟨hL_10,hD_6⟩
   dsimp only at hL_10 hD_6
   cases l_4 with
   | nil =>
    obtain rfl:=ah hL_10
    refine af (aa (ae (vB (decide ((k_3:Int)<(l_1.length:Int)))) wz rfl (ai ?_)))
    refine af (aA rfl (drop_nil hD_6) (bA ?_))
    exact bg (s_8) rfl rfl (aI rfl)
   | cons x_5 l_4 =>
    obtain ⟨c_,hc_9,hL_10⟩:=bind_some hL_10
    refine af (aa (ae (vB (decide ((k_3:Int)<(l_1.length:Int)))) wz rfl (ai ?_)))
    refine af (ay rfl (eG hD_6) (ax ?_))
    unfold gy at hc_9
    refine af (aF (af (aa (ae (vI (k_3:Int)) wz rfl (fB xe rfl rfl (fe hD_6) rfl wz (di gP jK rfl (.d (.agg (Log_.enc x_5))) rfl wz (kC 0 (.inl rfl) z43 rfl wz (λn_13=>ae (vI (k_3:Int)) wz rfl (ni 0 il ft 0 gP rfl rfl [(vS x_5.Player),(vS x_5.Item),(vI x_5.No),(vI x_5.Clock),(vI x_5.Long),(vS x_5.Sum)] rfl wz (ai (af (af (aa (aK 0 0 il ft gP jK rfl rfl (.d (.agg (Log_.enc x_5))) rfl wz ?_))))))))))))))
    obtain ⟨r_14,hr_15,hc_9⟩:=bind_some hc_9
    refine au (mf hr_15) rfl hb83 rfl rfl rfl rfl wz (ae (vI r_14) wz rfl (ai (af (aa (ae (vI r_14) wz rfl (ae (vB (r_14 != 0)) wz rfl (ai ?_)))))))
    rcases aj hc_9 with⟨hc_16,hc_9⟩|⟨hc_16,hc_9⟩
    ·refine ay rfl hc_16 (af (aa (ae (vI r_14) wz rfl (ae (vI r_14) wz rfl (ai ?_)))))
     obtain rfl:=ah hc_9
     obtain rfl:=ah hL_10
     obtain rfl:=ah hF
     exact av (aQ (.inr rfl) [(vI r_14)] ⟨rfl,trivial⟩ rfl rfl rfl)
    ·refine aA rfl hc_16 (ax (af (af (aa (aN jH rfl 5 rfl wz (aK 0 0 il ft sz9 ag9 rfl rfl (vS x_5.Sum) rfl wz ?_))))))
     obtain ⟨r_17,hr_18,hc_9⟩:=bind_some hc_9
     refine au (iX hr_18) rfl hb84 rfl rfl rfl rfl wz (ae (vB (!r_17)) wz rfl (ai ?_))
     rcases aj hc_9 with⟨hc_19,hc_9⟩|⟨hc_19,hc_9⟩
     ·refine ay rfl hc_19 (af (aa (ae (vI 3) wz rfl (ai ?_))))
      obtain rfl:=ah hc_9
      obtain rfl:=ah hL_10
      obtain rfl:=ah hF
      exact av (aQ (.inr rfl) [(vI 3)] ⟨rfl,trivial⟩ rfl rfl rfl)
     ·refine aA rfl hc_19 (ax (af ?_))
      obtain ⟨v_20,h_21,hc_9⟩:=bind_some hc_9
      refine aD (β:=Unit) (λ_=>([(0,(vL Log_.enc l_1)),(9,(vL Log_.enc l_1)),(10,(vI (l_1.length:Int))),(11,(vI (k_3:Int))),(36,(vB v_20))]:SL_)) (λ_=>([(n_13,some (.cells 6 [(vS x_5.Player),(vS x_5.Item),(vI x_5.No),(vI x_5.Clock),(vI x_5.Long),(vS x_5.Sum)]))]:Hp)) (λ_=>True) ?_ ?_
      ·refine dw (ae (vI (k_3:Int)) wz rfl (ae (vB (decide ((k_3:Int)>0))) wz rfl ?_))
       rcases aj h_21 with⟨hc_22,h_21⟩|⟨hc_22,h_21⟩
       ·refine aC rfl hc_22 wz (ae (vL Log_.enc l_1) wa rfl (ae (vI (k_3:Int)) wa rfl (ae (vI (w64 ((k_3:Int)-1))) wa rfl ?_)))
        obtain ⟨y_23,hy_24,h_21⟩:=bind_some h_21
        refine fB xe rfl rfl hy_24 rfl wa (di gP jK rfl (.d (.agg (Log_.enc y_23))) rfl wa (aK 8 0 (.inr (by kernel_rfl)) (λ_ _ ag=>trivial) gP jK rfl rfl (.d (.agg (Log_.enc x_5))) rfl wa ?_))
        obtain ⟨r_25,hr_26,h_21⟩:=bind_some h_21
        refine au (pE hr_26) rfl hb80 rfl rfl rfl rfl wa (ae (vB (decide (r_25>=0))) wa rfl (ae (vB (decide (r_25>=0))) wz rfl (ai ?_)))
        obtain rfl:=ah h_21
        exact cu
       ·refine aC rfl hc_22 wz (ak wa (ak wa (ak wa (ak wa (ak wa (ak wa (ak wa (ak wa (ae (vB false) wz rfl (ai ?_))))))))))
        obtain rfl:=ah h_21
        exact cu
      ·rintro ⟨⟩ _ sl_ H_ hp_ hq_
       refine aL _ hp_ hq_ ?_
       rcases aj hc_9 with⟨hc_27,hc_9⟩|⟨hc_27,hc_9⟩
       ·refine ay rfl hc_27 (af (aa (ae (vI 7) wz rfl (ai ?_))))
        obtain rfl:=ah hc_9
        obtain rfl:=ah hL_10
        obtain rfl:=ah hF
        exact av (aQ (.inr rfl) [(vI 7)] ⟨rfl,trivial⟩ rfl rfl rfl)
       ·refine aA rfl hc_27 (ax (aa (kF (fu hD_6 hn_7) wz rfl (ae (vI ((k_3+1:Nat):Int)) wz rfl (ai ?_)))))
        obtain rfl:=ah hc_9
        exact bB (k_3+1,l_4,()) ⟨hL_10,bT hD_6⟩ (ls_ _) rfl (aI rfl)
  ·rintro s_8 ho_ sl_ H_ hp_ hq_
   subst ho_
   refine aL _ hp_ hq_ (af (aa (ae (vI 0) wz rfl (ai ?_))))
   obtain rfl:=ah hF
   exact av (aQ (.inr rfl) [(vI 0)] ⟨rfl,trivial⟩ rfl rfl rfl)
theorem w9 {l_1:Log_} {r:ByteArray} (hF:lV l_1=some r) :
  FnM Tryz.prog 90 [(.d (.agg (Log_.enc l_1)))] [] (vS r) []:=by
 refine FnM.of_wH ⟨Tryz.prog,24,[],[]⟩ rfl Tryz.func90 rfl rfl (lb_ rfl) (by kernel_rfl) ?_
 unfold lV at hF
 refine af (aa (kN 0 (.inl rfl) [(vS l_1.Player),(vS l_1.Item),(vI l_1.No),(vI l_1.Clock),(vI l_1.Long),(vS l_1.Sum)] rfl rfl wz (λn_2=>ae (vS (⟨#[]⟩:ByteArray)) wz rfl (ai (af (dw (aN kU rfl 0 rfl wz (aK 1 0 (.inr (by kernel_rfl)) (λ_ _ ag=>trivial) sz9 ag9 rfl rfl (vS l_1.Player) rfl wz ?_))))))))
 obtain ⟨s_3,hz_4,hF⟩:=bind_some hF
 refine fI rfl rfl hz_4 wz (aN sj rfl 1 rfl wz (aK 4 0 (.inr (by kernel_rfl)) (λ_ _ ag=>⟨.inl ⟨rfl,rfl⟩,trivial⟩) sz9 ag9 rfl rfl (vS l_1.Item) rfl wz ?_))
 obtain ⟨s_5,hz_6,hF⟩:=bind_some hF
 refine fI rfl rfl hz_6 wz ?_
 obtain ⟨s_7,hz_8,hF⟩:=bind_some hF
 refine fI rfl rfl hz_8 wz (aN nP rfl 2 rfl wz (aK 8 0 (.inr (by kernel_rfl)) (λ_ _ ag=>⟨.inl ⟨rfl,rfl⟩,⟨.inl ⟨rfl,rfl⟩,trivial⟩⟩) sz3 ag3 rfl rfl (vI l_1.No) rfl wz ?_))
 obtain ⟨r_9,hr_10,hF⟩:=bind_some hF
 refine au (iZ hr_10) rfl Cj rfl rfl rfl rfl wz ?_
 obtain ⟨s_11,hz_12,hF⟩:=bind_some hF
 refine fI rfl rfl hz_12 wz ?_
 obtain ⟨s_13,hz_14,hF⟩:=bind_some hF
 refine fI rfl rfl hz_14 wz (aN wP rfl 3 rfl wz (aK 13 0 (.inr (by kernel_rfl)) (λ_ _ ag=>⟨.inl ⟨rfl,rfl⟩,⟨.inl ⟨rfl,rfl⟩,⟨.inl ⟨rfl,rfl⟩,trivial⟩⟩⟩) sz3 ag3 rfl rfl (vI l_1.Clock) rfl wz ?_))
 obtain ⟨r_15,hr_16,hF⟩:=bind_some hF
 refine au (iZ hr_16) rfl Cj rfl rfl rfl rfl wz ?_
 obtain ⟨s_17,hz_18,hF⟩:=bind_some hF
 refine fI rfl rfl hz_18 wz ?_
 obtain ⟨s_19,hz_20,hF⟩:=bind_some hF
 refine fI rfl rfl hz_20 wz (aN ww rfl 4 rfl wz (aK 18 0 (.inr (by kernel_rfl)) (λ_ _ ag=>⟨.inl ⟨rfl,rfl⟩,⟨.inl ⟨rfl,rfl⟩,⟨.inl ⟨rfl,rfl⟩,⟨.inl ⟨rfl,rfl⟩,trivial⟩⟩⟩⟩) sz3 ag3 rfl rfl (vI l_1.Long) rfl wz ?_))
 obtain ⟨r_21,hr_22,hF⟩:=bind_some hF
 refine au (iZ hr_22) rfl Cj rfl rfl rfl rfl wz ?_
 obtain ⟨s_23,hz_24,hF⟩:=bind_some hF
 refine fI rfl rfl hz_24 wz (ae (vS s_23) wz rfl (ai ?_))
 obtain rfl:=ah hF
 exact av (aQ (.inr rfl) [(vS s_23)] ⟨rfl,trivial⟩ rfl rfl rfl)
theorem jv {x_1:Int} {r:Bool} (hF:cZ x_1=some r) :
  FnM Tryz.prog 214 [(vI x_1)] [] (vB r) []:=by
 refine FnM.of_wH ⟨Tryz.prog,8,[],[]⟩ rfl Tryz.func214 rfl rfl (lb_ rfl) (by kernel_rfl) ?_
 unfold cZ at hF
 refine af (aa (ae (vB false) wz rfl (ai (af (aa (ae (vI x_1) wz rfl (ae (vI x_1) wz rfl (ae (vI (w64 (x_1-1))) wz rfl (ae (vI (ze .i64 x_1 (w64 (x_1-1)))) wz rfl (ae (vB ((ze .i64 x_1 (w64 (x_1-1)))==0)) wz rfl (ae (vB ((ze .i64 x_1 (w64 (x_1-1)))==0)) wz rfl (ai ?_))))))))))))
 obtain rfl:=ah hF
 exact av (aQ (.inr rfl) [(vB ((ze .i64 x_1 (w64 (x_1-1)))==0))] ⟨rfl,trivial⟩ rfl rfl rfl)
theorem lX {x0:Int} {r:Int} (hF:fT x0=some r) :
  FnM Tryz.prog 215 [(.d (.int .u64 x0))] [] (vI r) [] :=
 tz_ok db_g Tryz.bits_TrailingZeros laid_db hF
theorem jS {dst_1:(List Int)} {u_2:Int} {base_3:Int} {neg_4:Bool} {append_5:Bool} {r:(List Int)×ByteArray} (hF:bJ dst_1 u_2 base_3 neg_4 append_5=some r) :
  FnM Tryz.prog 184 [(vL (eK .u8) dst_1),(.d (.int .u64 u_2)),(vI base_3),(vB neg_4),(vB append_5)] [] (.tup [(vL (eK .u8) r.1),(vS r.2)]) []:=by
 refine FnM.of_wH ⟨Tryz.prog,102,[],[]⟩ rfl Tryz.func184 rfl rfl (lb_ rfl) (by kernel_rfl) ?_
 unfold bJ at hF
 refine af (aa (ae .nil wz rfl (ae (vS (⟨#[]⟩:ByteArray)) wz rfl (ai (af (af ?_))))))
 obtain ⟨v_6,h_7,hF⟩:=bind_some hF
 refine aD (β:=Unit) (λ_=>([(0,(vL (eK .u8) dst_1)),(1,(.d (.int .u64 u_2))),(2,(vI base_3)),(3,(vB neg_4)),(4,(vB append_5)),(10,.nil),(11,(vS (⟨#[]⟩:ByteArray))),(28,(vB v_6))]:SL_)) (λ_=>([]:Hp)) (λ_=>True) ?_ ?_
 ·refine aa (ae (vI base_3) wz rfl (ae (vB (decide (base_3<2))) wz rfl ?_))
  rcases aj h_7 with⟨hc_8,h_7⟩|⟨hc_8,h_7⟩
  ·refine aC rfl hc_8 wz (ak wa (ak wa (ae (vB true) wz rfl (ae (vB true) wz rfl (ak wa (ak wa (ae (vB true) wz rfl (ai ?_))))))))
   obtain rfl:=ah h_7
   exact cu
  ·refine aC rfl hc_8 wz (ae (vI base_3) wa rfl (ae (vB (base_3==10)) wa rfl (ae (vB (base_3==10)) wz rfl ?_)))
   rcases aj h_7 with⟨hc_9,h_7⟩|⟨hc_9,h_7⟩
   ·refine aC rfl hc_9 wz (ak wa (ak wa (ae (vB true) wz rfl (ai ?_))))
    obtain rfl:=ah h_7
    exact cu
   ·refine aC rfl hc_9 wz (ae (vI base_3) wa rfl (ae (vB (decide (base_3>36))) wa rfl (ae (vB (decide (base_3>36))) wz rfl (ai ?_))))
    obtain rfl:=ah h_7
    exact cu
 ·rintro ⟨⟩ _ sl_ H_ hp_ hq_
  refine aL _ hp_ hq_ ?_
  obtain ⟨v_10,h_11,hF⟩:=bind_some hF
  refine aD (β:=Unit) (λ_=>([(0,(vL (eK .u8) dst_1)),(1,(.d (.int .u64 u_2))),(2,(vI base_3)),(3,(vB neg_4)),(4,(vB append_5)),(10,.nil),(11,(vS (⟨#[]⟩:ByteArray)))]:SL_)) (λ_=>([]:Hp)) (λ_=>True) ?_ ?_
  ·rcases aj h_11 with⟨hc_12,h_11⟩|⟨hc_12,h_11⟩
   ·refine ay rfl hc_12 (aa ?_)
    cases h_11
   ·refine aA rfl hc_12 (ax ?_)
    obtain rfl:=ah h_11
    exact cu
  ·rintro ⟨⟩ _ sl_ H_ hp_ hq_
   refine aL _ hp_ hq_ (af (aa (zC (List.replicate 65 (0:Int)) 0 (.inl rfl) z223 (by kernel_rfl) (by kernel_rfl) tV wz (λn_13=>ai (af (aa (ae (vI 65) wz rfl (ai (af (af (aa (ae (vB neg_4) wz rfl (ai ?_)))))))))))))
   obtain ⟨v_14,h_15,hF⟩:=bind_some hF
   refine aD (β:=Unit) (λ_=>([(0,(vL (eK .u8) dst_1)),(1,(.d (.int .u64 v_14))),(2,(vI base_3)),(3,(vB neg_4)),(4,(vB append_5)),(10,.nil),(11,(vS (⟨#[]⟩:ByteArray))),(12,(.ref n_13 0 0)),(13,(vI 65))]:SL_)) (λ_=>([(n_13,some (bV 1 (eK .u8) (List.replicate 65 (0:Int))))]:Hp)) (λ_=>True) ?_ ?_
   ·rcases aj h_15 with⟨hc_16,h_15⟩|⟨hc_16,h_15⟩
    ·refine ay rfl hc_16 (aa (ae (.d (.int .u64 u_2)) wz rfl (ae (.d (.int .u64 (IntKind.u64.wrap (0-u_2)))) wz rfl (ae (.d (.int .u64 (IntKind.u64.wrap (0-u_2)))) wz rfl (ai ?_)))))
     obtain rfl:=ah h_15
     exact cu
    ·refine aA rfl hc_16 (ax ?_)
     obtain rfl:=ah h_15
     exact cu
   ·rintro ⟨⟩ _ sl_ H_ hp_ hq_
    refine aL _ hp_ hq_ (af (af (aa (ae (vI base_3) wz rfl ?_))))
    obtain ⟨r_17,hr_18,hF⟩:=bind_some hF
    refine au (jv hr_18) rfl hb214 rfl rfl rfl rfl wz (ai ?_)
    obtain ⟨v_19,h_20,hF⟩:=bind_some hF
    refine aD (β:=Unit) (λ_=>([(0,(vL (eK .u8) dst_1)),(3,(vB neg_4)),(4,(vB append_5)),(10,.nil),(11,(vS (⟨#[]⟩:ByteArray))),(12,(.ref n_13 0 0)),(13,(vI v_19.2))]:SL_)) (λ_=>([(n_13,some (bV 1 (eK .u8) v_19.1))]:Hp)) (λ_=>True) ?_ ?_
    ·rcases aj h_20 with⟨hc_21,h_20⟩|⟨hc_21,h_20⟩
     ·refine ay rfl hc_21 (af (aa (ae (vI base_3) wz rfl (oG un3 DK rfl wz ?_))))
      obtain ⟨r_22,hr_23,h_20⟩:=bind_some h_20
      refine au (lX hr_23) rfl hb215 rfl rfl rfl rfl wz (oG un3 DK rfl wz (ae (.d (.int .u64 (IntKind.u64.wrap r_22))) wz rfl (ai (af (aa (ae (vI base_3) wz rfl (oG un3 EH rfl wz (ae (.d (.int .u64 (IntKind.u64.wrap base_3))) wz rfl (ai (af (aa (ae (vI base_3) wz rfl (oG un3 DK rfl wz (ae (.d (.int .u64 (IntKind.u64.wrap ((IntKind.u64.wrap base_3)-1)))) wz rfl (ae (.d (.int .u64 (IntKind.u64.wrap ((IntKind.u64.wrap base_3)-1)))) wz rfl (ai (af ?_)))))))))))))))))
      obtain ⟨o_32,hj_33,h_20⟩:=bind_some h_20
      obtain ⟨nq_47,hj_33⟩:=dV hj_33
      refine aD (β:=((List Int)×Int×Int)) (λ(s_29:(List Int)×Int×Int)=>([(0,(vL (eK .u8) dst_1)),(1,(.d (.int .u64 s_29.2.1))),(3,(vB neg_4)),(4,(vB append_5)),(10,.nil),(11,(vS (⟨#[]⟩:ByteArray))),(12,(.ref n_13 0 0)),(13,(vI s_29.2.2))]:SL_)) (λ(s_29:(List Int)×Int×Int)=>([(n_13,some (bV 1 (eK .u8) s_29.1))]:Hp)) (λp=>o_32 = .go p) ?_ ?_
      ·refine aF (bI (β:=Nat×((List Int)×Int×Int)) (λp=>(λ(k_24:Nat) (s_29:(List Int)×Int×Int)=>([(0,(vL (eK .u8) dst_1)),(1,(.d (.int .u64 s_29.2.1))),(3,(vB neg_4)),(4,(vB append_5)),(10,.nil),(11,(vS (⟨#[]⟩:ByteArray))),(12,(.ref n_13 0 0)),(13,(vI s_29.2.2)),(14,(.d (.int .u64 (IntKind.u64.wrap r_22)))),(15,(.d (.int .u64 (IntKind.u64.wrap base_3)))),(16,(.d (.int .u64 (IntKind.u64.wrap ((IntKind.u64.wrap base_3)-1)))))]:SL_)) p.1 p.2) (λp=>(λ(k_24:Nat) (s_29:(List Int)×Int×Int)=>([(n_13,some (bV 1 (eK .u8) s_29.1))]:Hp)) p.1 p.2) (λp=>aZ (λs=>aO base_3 r_22 s) p.1 p.2=some o_32) (λp=>p.1) (nq_47,((List.replicate 65 (0:Int)),v_14,65)) hj_33 rfl (aI rfl) ?_)
       rintro ⟨k_24,s_29⟩ hL_31
       dsimp only at hL_31
       cases k_24 with
       | zero=>cases hL_31
       | succ k_24 =>
        obtain ⟨c_,hc_30,hL_31⟩:=bind_some hL_31
        unfold aO at hc_30
        refine af (af (aa (ae (.d (.int .u64 s_29.2.1)) wz rfl (ae (.d (.int .u64 (IntKind.u64.wrap base_3))) wz rfl (ae (vB (decide (s_29.2.1>=(IntKind.u64.wrap base_3)))) wz rfl (ai ?_))))))
        rcases aj hc_30 with⟨hc_34,hc_30⟩|⟨hc_34,hc_30⟩
        ·refine ay rfl hc_34 (ax (aF (af (aa (ae (vI s_29.2.2) wz rfl (ae (vI (w64 (s_29.2.2-1))) wz rfl (ae (vI (w64 (s_29.2.2-1))) wz rfl (ai (af (aa (ae (vI (w64 (s_29.2.2-1))) wz rfl (ae (.d (.int .u64 s_29.2.1)) wz rfl (ae (.d (.int .u64 (IntKind.u64.wrap ((IntKind.u64.wrap base_3)-1)))) wz rfl (ae (.d (.int .u64 (ze .u64 s_29.2.1 (IntKind.u64.wrap ((IntKind.u64.wrap base_3)-1))))) wz rfl ?_))))))))))))))
         obtain ⟨b_35,hy_36,hc_30⟩:=bind_some hc_30
         refine qR un9 rfl rfl hy_36 wz ?_
         obtain ⟨_,hi_37,hc_30⟩:=bind_some hc_30
         refine Ae 0 0 il ft tV rfl rfl rfl (zS hi_37) (uN hi_37) wz ?_
         obtain ⟨e_38,hy_39,hc_30⟩:=bind_some hc_30
         refine xP 0 il ft 0 sz5 rfl rfl hy_39 (b_35.toNat:Int) rfl wz (ai (aa (ae (.d (.int .u64 s_29.2.1)) wz rfl (ae (.d (.int .u64 (IntKind.u64.wrap r_22))) wz rfl ?_))))
         obtain ⟨q_40,hz_41,hc_30⟩:=bind_some hc_30
         refine h_shr rfl rfl hz_41 wz (ae (.d (.int .u64 q_40)) wz rfl (ai ?_))
         obtain rfl:=ah hc_30
         exact bB (k_24,((s_29.1.set ((w64 (s_29.2.2-1))).toNat (b_35.toNat:Int)),q_40,(w64 (s_29.2.2-1)))) hL_31 (ls_ _) rfl (aI rfl)
        ·refine aA rfl hc_34 (bA ?_)
         obtain rfl:=ah hc_30
         obtain rfl:=ah hL_31
         exact bg ((s_29.1,s_29.2.1,s_29.2.2)) rfl rfl (aI rfl)
      ·rintro s_29 ho_ sl_ H_ hp_ hq_
       subst ho_
       refine aL _ hp_ hq_ (af (aa (ae (vI s_29.2.2) wz rfl (ae (vI (w64 (s_29.2.2-1))) wz rfl (ae (vI (w64 (s_29.2.2-1))) wz rfl (ai (aa (ae (vI (w64 (s_29.2.2-1))) wz rfl (ae (.d (.int .u64 s_29.2.1)) wz rfl ?_)))))))))
       obtain ⟨b_42,hy_43,h_20⟩:=bind_some h_20
       refine qR un9 rfl rfl hy_43 wz ?_
       obtain ⟨_,hi_44,h_20⟩:=bind_some h_20
       refine Ae 0 0 il ft tV rfl rfl rfl (zS hi_44) (uN hi_44) wz ?_
       obtain ⟨e_45,hy_46,h_20⟩:=bind_some h_20
       refine xP 0 il ft 0 sz5 rfl rfl hy_46 (b_42.toNat:Int) rfl wz (ai ?_)
       obtain rfl:=ah h_20
       exact cu
     ·refine aA rfl hc_21 (af (aa (ae (vI base_3) wz rfl (oG un3 EH rfl wz (ae (.d (.int .u64 (IntKind.u64.wrap base_3))) wz rfl (ai (af ?_)))))))
      obtain ⟨o_56,hj_57,h_20⟩:=bind_some h_20
      obtain ⟨nq_71,hj_57⟩:=dV hj_57
      refine aD (β:=((List Int)×Int×Int)) (λ(s_53:(List Int)×Int×Int)=>([(0,(vL (eK .u8) dst_1)),(1,(.d (.int .u64 s_53.2.1))),(3,(vB neg_4)),(4,(vB append_5)),(10,.nil),(11,(vS (⟨#[]⟩:ByteArray))),(12,(.ref n_13 0 0)),(13,(vI s_53.2.2))]:SL_)) (λ(s_53:(List Int)×Int×Int)=>([(n_13,some (bV 1 (eK .u8) s_53.1))]:Hp)) (λp=>o_56 = .go p) ?_ ?_
      ·refine aF (bI (β:=Nat×((List Int)×Int×Int)) (λp=>(λ(k_48:Nat) (s_53:(List Int)×Int×Int)=>([(0,(vL (eK .u8) dst_1)),(1,(.d (.int .u64 s_53.2.1))),(3,(vB neg_4)),(4,(vB append_5)),(10,.nil),(11,(vS (⟨#[]⟩:ByteArray))),(12,(.ref n_13 0 0)),(13,(vI s_53.2.2)),(17,(.d (.int .u64 (IntKind.u64.wrap base_3))))]:SL_)) p.1 p.2) (λp=>(λ(k_48:Nat) (s_53:(List Int)×Int×Int)=>([(n_13,some (bV 1 (eK .u8) s_53.1))]:Hp)) p.1 p.2) (λp=>aZ (λs=>dN base_3 s) p.1 p.2=some o_56) (λp=>p.1) (nq_71,((List.replicate 65 (0:Int)),v_14,65)) hj_57 rfl (aI rfl) ?_)
       rintro ⟨k_48,s_53⟩ hL_55
       dsimp only at hL_55
       cases k_48 with
       | zero=>cases hL_55
       | succ k_48 =>
        obtain ⟨c_,hc_54,hL_55⟩:=bind_some hL_55
        unfold dN at hc_54
        refine af (af (aa (ae (.d (.int .u64 s_53.2.1)) wz rfl (ae (.d (.int .u64 (IntKind.u64.wrap base_3))) wz rfl (ae (vB (decide (s_53.2.1>=(IntKind.u64.wrap base_3)))) wz rfl (ai ?_))))))
        rcases aj hc_54 with⟨hc_58,hc_54⟩|⟨hc_58,hc_54⟩
        ·refine ay rfl hc_58 (ax (aF (af (aa (ae (vI s_53.2.2) wz rfl (ae (vI (w64 (s_53.2.2-1))) wz rfl (ae (vI (w64 (s_53.2.2-1))) wz rfl (ai (af (aa (ae (.d (.int .u64 s_53.2.1)) wz rfl (ae (.d (.int .u64 (IntKind.u64.wrap base_3))) wz rfl ?_))))))))))))
         obtain ⟨q_59,hz_60,hc_54⟩:=bind_some hc_54
         refine DJ rfl rfl hz_60 wz (ae (.d (.int .u64 q_59)) wz rfl (ai (af (aa (ae (vI (w64 (s_53.2.2-1))) wz rfl (ae (.d (.int .u64 s_53.2.1)) wz rfl (ae (.d (.int .u64 q_59)) wz rfl (ae (.d (.int .u64 (IntKind.u64.wrap base_3))) wz rfl (ae (.d (.int .u64 (IntKind.u64.wrap (q_59*(IntKind.u64.wrap base_3))))) wz rfl (ae (.d (.int .u64 (IntKind.u64.wrap (s_53.2.1-(IntKind.u64.wrap (q_59*(IntKind.u64.wrap base_3))))))) wz rfl ?_))))))))))
         obtain ⟨b_61,hy_62,hc_54⟩:=bind_some hc_54
         refine qR un9 rfl rfl hy_62 wz ?_
         obtain ⟨_,hi_63,hc_54⟩:=bind_some hc_54
         refine Ae 0 0 il ft tV rfl rfl rfl (zS hi_63) (uN hi_63) wz ?_
         obtain ⟨e_64,hy_65,hc_54⟩:=bind_some hc_54
         refine xP 0 il ft 0 sz5 rfl rfl hy_65 (b_61.toNat:Int) rfl wz (ai (aa (ae (.d (.int .u64 q_59)) wz rfl (ae (.d (.int .u64 q_59)) wz rfl (ai ?_)))))
         obtain rfl:=ah hc_54
         exact bB (k_48,((s_53.1.set ((w64 (s_53.2.2-1))).toNat (b_61.toNat:Int)),q_59,(w64 (s_53.2.2-1)))) hL_55 (ls_ _) rfl (aI rfl)
        ·refine aA rfl hc_58 (bA ?_)
         obtain rfl:=ah hc_54
         obtain rfl:=ah hL_55
         exact bg ((s_53.1,s_53.2.1,s_53.2.2)) rfl rfl (aI rfl)
      ·rintro s_53 ho_ sl_ H_ hp_ hq_
       subst ho_
       refine aL _ hp_ hq_ (af (aa (ae (vI s_53.2.2) wz rfl (ae (vI (w64 (s_53.2.2-1))) wz rfl (ae (vI (w64 (s_53.2.2-1))) wz rfl (ai (aa (ae (vI (w64 (s_53.2.2-1))) wz rfl (ae (.d (.int .u64 s_53.2.1)) wz rfl ?_)))))))))
       obtain ⟨b_66,hy_67,h_20⟩:=bind_some h_20
       refine qR un9 rfl rfl hy_67 wz ?_
       obtain ⟨_,hi_68,h_20⟩:=bind_some h_20
       refine Ae 0 0 il ft tV rfl rfl rfl (zS hi_68) (uN hi_68) wz ?_
       obtain ⟨e_69,hy_70,h_20⟩:=bind_some h_20
       refine xP 0 il ft 0 sz5 rfl rfl hy_70 (b_66.toNat:Int) rfl wz (ai ?_)
       obtain rfl:=ah h_20
       exact cu
    ·rintro ⟨⟩ _ sl_ H_ hp_ hq_
     refine aL _ hp_ hq_ (af (af (aa (ae (vB neg_4) wz rfl (ai ?_)))))
     obtain ⟨v_72,h_73,hF⟩:=bind_some hF
     refine aD (β:=Unit) (λ_=>([(0,(vL (eK .u8) dst_1)),(4,(vB append_5)),(10,.nil),(11,(vS (⟨#[]⟩:ByteArray))),(12,(.ref n_13 0 0)),(13,(vI v_72.2))]:SL_)) (λ_=>([(n_13,some (bV 1 (eK .u8) v_72.1))]:Hp)) (λ_=>True) ?_ ?_
     ·rcases aj h_73 with⟨hc_74,h_73⟩|⟨hc_74,h_73⟩
      ·refine ay rfl hc_74 (af (aa (ae (vI v_19.2) wz rfl (ae (vI (w64 (v_19.2-1))) wz rfl (ae (vI (w64 (v_19.2-1))) wz rfl (ai (aa (ae (vI (w64 (v_19.2-1))) wz rfl ?_))))))))
       obtain ⟨_,hi_75,h_73⟩:=bind_some h_73
       refine Ae 0 0 il ft tV rfl rfl rfl (zS hi_75) (uN hi_75) wz ?_
       obtain ⟨e_76,hy_77,h_73⟩:=bind_some h_73
       refine xP 0 il ft 0 sz5 rfl rfl hy_77 45 rfl wz (ai ?_)
       obtain rfl:=ah h_73
       exact cu
      ·refine aA rfl hc_74 (ax ?_)
       obtain rfl:=ah h_73
       exact cu
     ·rintro ⟨⟩ _ sl_ H_ hp_ hq_
      refine aL _ hp_ hq_ (af (af (aa (ae (vB append_5) wz rfl (ai ?_)))))
      rcases aj hF with⟨hc_78,hF⟩|⟨hc_78,hF⟩
      ·refine ay rfl hc_78 (af (aa (ae (vL (eK .u8) dst_1) wz rfl (ae (vI v_72.2) wz rfl ?_))))
       obtain ⟨_,hn_79,hF⟩:=bind_some hF
       obtain ⟨_,hr_80,hF⟩:=bind_some hF
       refine zi 0 0 il ft tV rfl rfl rfl hn_79 hr_80 wz ?_
       cases hF
      ·refine aA rfl hc_78 (ax (af (aa (ae (vI v_72.2) wz rfl ?_))))
       obtain ⟨_,hn_81,hF⟩:=bind_some hF
       obtain ⟨_,hr_82,hF⟩:=bind_some hF
       refine zi 0 0 il ft tV rfl rfl rfl hn_81 hr_82 wz (h_convp 0 0 il ft un92 un9 un5 rfl rfl (subR_le hr_82) wz (ae (vS (Go.strOfNums (yY v_72.1 ((v_72.2).toNat) (((v_72.1.length:Int)).toNat-(v_72.2).toNat)))) wz rfl (ai ?_)))
       obtain rfl:=ah hF
       exact av (aQ (.inr rfl) [.nil,(vS (Go.strOfNums (yY v_72.1 ((v_72.2).toNat) (((v_72.1.length:Int)).toNat-(v_72.2).toNat))))] ⟨rfl,⟨rfl,trivial⟩⟩ rfl rfl rfl)
theorem jQ {i_1:Int} {base_2:Int} {r:ByteArray} (hF:dA i_1 base_2=some r) :
  FnM Tryz.prog 140 [(.d (.int .u64 i_1)),(vI base_2)] [] (vS r) []:=by
 refine FnM.of_wH ⟨Tryz.prog,32,[],[]⟩ rfl Tryz.func140 rfl rfl (lb_ rfl) (by kernel_rfl) ?_
 unfold dA at hF
 refine af (aa (ae (vS (⟨#[]⟩:ByteArray)) wz rfl (ai (af (af (aa (ae (vI base_2) wz rfl (ae (vB (base_2==10)) wz rfl (ai ?_)))))))))
 rcases aj hF with⟨hc_3,hF⟩|⟨hc_3,hF⟩
 ·refine ay rfl hc_3 (af (af (aa (ae (.d (.int .u64 i_1)) wz rfl (ae (vB (decide (i_1<100))) wz rfl (ai ?_))))))
  rcases aj hF with⟨hc_4,hF⟩|⟨hc_4,hF⟩
  ·refine ay rfl hc_4 (af (aa (ae (.d (.int .u64 i_1)) wz rfl (oG EH un3 rfl wz ?_))))
   cases hF
  ·refine aA rfl hc_4 (ax (af (aa (zC (List.replicate 24 (0:Int)) 0 (.inl rfl) z197 (by kernel_rfl) (by kernel_rfl) ab197 wz (λn_5=>ai (af (aa (ae (.d (.int .u64 i_1)) wz rfl ?_))))))))
   cases hF
 ·refine aA rfl hc_3 (ax (af (aa (ae (.d (.int .u64 i_1)) wz rfl (ae (vI base_2) wz rfl ?_)))))
  obtain ⟨r_6,hr_7,hF⟩:=bind_some hF
  refine au (jS hr_7) rfl hb184 rfl rfl rfl rfl wz (ae (.tup [(vL (eK .u8) r_6.1),(vS r_6.2)]) wz rfl (ae (vL (eK .u8) r_6.1) wz rfl (ae (vS r_6.2) wz rfl (ae (vL (eK .u8) r_6.1) wz rfl (ae (vS r_6.2) wz rfl (ai (af (aa (ae (vS r_6.2) wz rfl (ae (vS r_6.2) wz rfl (ai ?_)))))))))))
  obtain rfl:=ah hF
  exact av (aQ (.inr rfl) [(vS r_6.2)] ⟨rfl,trivial⟩ rfl rfl rfl)
theorem oo {i_1:Int} {base_2:Int} {r:ByteArray} (hF:eP i_1 base_2=some r) :
  FnM Tryz.prog 110 [(.d (.int .u64 i_1)),(vI base_2)] [] (vS r) []:=by
 refine FnM.of_wH ⟨Tryz.prog,8,[],[]⟩ rfl Tryz.func110 rfl rfl (lb_ rfl) (by kernel_rfl) ?_
 unfold eP at hF
 refine af (aa (ae (vS (⟨#[]⟩:ByteArray)) wz rfl (ai (af (aa (ae (.d (.int .u64 i_1)) wz rfl (ae (vI base_2) wz rfl ?_)))))))
 obtain ⟨r_3,hr_4,hF⟩:=bind_some hF
 refine au (jQ hr_4) rfl hb140 rfl rfl rfl rfl wz (ae (vS r_3) wz rfl (ai ?_))
 obtain rfl:=ah hF
 exact av (aQ (.inr rfl) [(vS r_3)] ⟨rfl,trivial⟩ rfl rfl rfl)
theorem rf {x0:ByteArray} {x1:Int} {r:ByteArray} (hF:strings_Repeat x0 x1=some r) :
  FnM Tryz.prog 111 [(vS x0),(vI x1)] [] (vS r) [] :=
 Dx rfl Tryz.strings_Repeat  hF
theorem mM {s_1:ByteArray} {r:ByteArray} (hF:ik s_1=some r) :
  FnM Tryz.prog 60 [(vS s_1)] [] (vS r) []:=by
 refine FnM.of_wH ⟨Tryz.prog,27,[],[]⟩ rfl Tryz.func60 rfl rfl (lb_ rfl) (by kernel_rfl) ?_
 unfold ik at hF
 refine af (aa (ae (vS (⟨#[]⟩:ByteArray)) wz rfl (ai (af (aa (ae (.d (.int .u64 14695981039346656037)) wz rfl (ai (af (af (aa (ae (vS s_1) wz rfl (o8 un9 rfl wz (ae (vI 0) wz rfl (ai ?_))))))))))))))
 obtain ⟨o_10,hj_11,hF⟩:=bind_some hF
 obtain ⟨hn_6,hj_11⟩:=dx hj_11
 refine aD (β:=(Int)) (λ(s_7:Int)=>([(3,(.d (.int .u64 s_7)))]:SL_)) (λ(s_7:Int)=>([]:Hp)) (λp=>o_10 = .go p) ?_ ?_
 ·refine aF (bI (β:=Nat×(List Nat)×(Int)) (λp=>(λ(k_2:Nat) (l_3:List Nat) (s_7:Int)=>([(0,(vS s_1)),(3,(.d (.int .u64 s_7))),(7,(vI (s_1.size:Int))),(8,(vI (k_2:Int)))]:SL_)) p.1 p.2.1 p.2.2) (λp=>(λ(k_2:Nat) (l_3:List Nat) (s_7:Int)=>([]:Hp)) p.1 p.2.1 p.2.2) (λp=>dW (λk x s=>iL s_1 k x s) p.2.1 p.1 p.2.2=some o_10/\((List.range ((s_1.size:Int)).toNat)).drop p.1=p.2.1) (λp=>p.2.1.length) (0,(List.range ((s_1.size:Int)).toNat),14695981039346656037) ⟨hj_11,rfl⟩ rfl (aI rfl) ?_)
  rintro ⟨k_2,l_3,s_7⟩ ⟨hL_9,hD_5⟩
  dsimp only at hL_9 hD_5
  cases l_3 with
  | nil =>
   obtain rfl:=ah hL_9
   refine af (aa (ae (vB (decide ((k_2:Int)<(s_1.size:Int)))) wz rfl (ai ?_)))
   refine af (aA rfl (pO hD_5) (bA ?_))
   exact bg (s_7) rfl rfl (aI rfl)
  | cons x_4 l_3 =>
   obtain ⟨c_,hc_8,hL_9⟩:=bind_some hL_9
   refine af (aa (ae (vB (decide ((k_2:Int)<(s_1.size:Int)))) wz rfl (ai ?_)))
   refine af (ay rfl (nJ hD_5) (ax ?_))
   unfold iL at hc_8
   refine af (aF (af (aa (ae (vI (k_2:Int)) wz rfl (ae (vI (k_2:Int)) wz rfl (ai (aa (ae (.d (.int .u64 s_7)) wz rfl (ae (vS s_1) wz rfl (ae (vI (k_2:Int)) wz rfl ?_))))))))))
   obtain ⟨b_12,hy_13,hc_8⟩:=bind_some hc_8
   refine qR un9 rfl rfl hy_13 wz (oG un5 EH rfl wz (ae (.d (.int .u64 (iH .u64 s_7 (IntKind.u64.wrap (b_12.toNat:Int))))) wz rfl (ae (.d (.int .u64 (IntKind.u64.wrap ((iH .u64 s_7 (IntKind.u64.wrap (b_12.toNat:Int)))*1099511628211)))) wz rfl (ae (.d (.int .u64 (IntKind.u64.wrap ((iH .u64 s_7 (IntKind.u64.wrap (b_12.toNat:Int)))*1099511628211)))) wz rfl (ai (aa (kF (pI hD_5 hn_6) wz rfl (ae (vI ((k_2+1:Nat):Int)) wz rfl (ai ?_)))))))))
   obtain rfl:=ah hc_8
   exact bB (k_2+1,l_3,(IntKind.u64.wrap ((iH .u64 s_7 (IntKind.u64.wrap (b_12.toNat:Int)))*1099511628211))) ⟨hL_9,bT hD_5⟩ (ls_ _) rfl (aI rfl)
 ·rintro s_7 ho_ sl_ H_ hp_ hq_
  subst ho_
  refine aL _ hp_ hq_ (af (aa (ae (.d (.int .u64 s_7)) wz rfl ?_)))
  obtain ⟨r_14,hr_15,hF⟩:=bind_some hF
  refine au (oo hr_15) rfl hb110 rfl rfl rfl rfl wz (ae (vS r_14) wz rfl (ai (af (aa (ae (vS r_14) wz rfl (o8 un9 rfl wz (ae (vI (w64 (16-(r_14.size:Int)))) wz rfl ?_)))))))
  obtain ⟨r_16,hr_17,hF⟩:=bind_some hF
  refine au (rf hr_17) rfl hb111 rfl rfl rfl rfl wz (ae (vS r_14) wz rfl ?_)
  obtain ⟨s_18,hz_19,hF⟩:=bind_some hF
  refine fI rfl rfl hz_19 wz (ae (vS s_18) wz rfl (ai ?_))
  obtain rfl:=ah hF
  exact av (aQ (.inr rfl) [(vS s_18)] ⟨rfl,trivial⟩ rfl rfl rfl)
theorem qF {l_1:Log_} {r:ByteArray} (hF:jV l_1=some r) :
  FnM Tryz.prog 67 [(.d (.agg (Log_.enc l_1)))] [] (vS r) []:=by
 refine FnM.of_wH ⟨Tryz.prog,11,[],[]⟩ rfl Tryz.func67 rfl rfl (lb_ rfl) (by kernel_rfl) ?_
 unfold jV at hF
 refine af (aa (kN 0 (.inl rfl) [(vS l_1.Player),(vS l_1.Item),(vI l_1.No),(vI l_1.Clock),(vI l_1.Long),(vS l_1.Sum)] rfl rfl wz (λn_2=>ae (vS (⟨#[]⟩:ByteArray)) wz rfl (ai (af (dw (aK 0 0 (.inr (by kernel_rfl)) (λ_ _ ag=>trivial) gP jK rfl rfl (.d (.agg (Log_.enc l_1))) rfl wz ?_)))))))
 obtain ⟨r_3,hr_4,hF⟩:=bind_some hF
 refine au (w9 hr_4) rfl hb90 rfl rfl rfl rfl wz ?_
 obtain ⟨s_5,hz_6,hF⟩:=bind_some hF
 refine fI rfl rfl hz_6 wz ?_
 obtain ⟨s_7,hz_8,hF⟩:=bind_some hF
 refine fI rfl rfl hz_8 wz (aN jH rfl 5 rfl wz (aK 5 0 (.inr (by kernel_rfl)) (λ_ _ ag=>⟨.inl ⟨rfl,rfl⟩,trivial⟩) sz9 ag9 rfl rfl (vS l_1.Sum) rfl wz ?_))
 obtain ⟨s_9,hz_10,hF⟩:=bind_some hF
 refine fI rfl rfl hz_10 wz ?_
 obtain ⟨r_11,hr_12,hF⟩:=bind_some hF
 refine au (mM hr_12) rfl hb60 rfl rfl rfl rfl wz (ae (vS r_11) wz rfl (ai ?_))
 obtain rfl:=ah hF
 exact av (aQ (.inr rfl) [(vS r_11)] ⟨rfl,trivial⟩ rfl rfl rfl)
theorem nZ {l_1:(List Log_)} {r:(List ByteArray)} (hF:iC l_1=some r) :
  FnM Tryz.prog 59 [(vL Log_.enc l_1)] [] (vL eS r) []:=by
 refine FnM.of_wH ⟨Tryz.prog,19,[],[]⟩ rfl Tryz.func59 rfl rfl (lb_ rfl) (by kernel_rfl) ?_
 unfold iC at hF
 refine af (aa (ae .nil wz rfl (ai (af (aa (ae .nil wz rfl (ai (af (af (aa (ae (vL Log_.enc l_1) wz rfl (bS rR rfl wz (ae (vI 0) wz rfl (ai (mO (λn_8 => ?_))))))))))))))))
 obtain ⟨o_13,hj_14,hF⟩:=bind_some hF
 obtain ⟨hn_6,hj_14⟩:=dx hj_14
 refine aD (β:=((List ByteArray))×Nm) (λp=>(λ(s_7:List ByteArray) (n_10:Nm)=>([(3,(gV n_10 1 s_7))]:SL_)) p.1 p.2) (λp=>(λ(s_7:List ByteArray) (n_10:Nm)=>([(n_10,gB 1 eS s_7)]:Hp)) p.1 p.2) (λp=>o_13 = .go p.1) ?_ ?_
 ·refine aF (bI (β:=Nat×(List Log_)×((List ByteArray))×Nm) (λp=>(λ(k_2:Nat) (l_3:List Log_) (s_7:List ByteArray) (n_10:Nm)=>([(3,(gV n_10 1 s_7)),(6,(vL Log_.enc l_1)),(7,(vI (l_1.length:Int))),(8,(vI (k_2:Int)))]:SL_)) p.1 p.2.1 p.2.2.1 p.2.2.2) (λp=>(λ(k_2:Nat) (l_3:List Log_) (s_7:List ByteArray) (n_10:Nm)=>([(n_10,gB 1 eS s_7)]:Hp)) p.1 p.2.1 p.2.2.1 p.2.2.2) (λp=>dW (λk x s=>gH k x s) p.2.1 p.1 p.2.2.1=some o_13/\(l_1).drop p.1=p.2.1) (λp=>p.2.1.length) (0,l_1,([]:List ByteArray),n_8) ⟨hj_14,rfl⟩ rfl (aI rfl) ?_)
  rintro ⟨k_2,l_3,s_7,n_10⟩ ⟨hL_12,hD_5⟩
  dsimp only at hL_12 hD_5
  cases l_3 with
  | nil =>
   obtain rfl:=ah hL_12
   refine af (aa (ae (vB (decide ((k_2:Int)<(l_1.length:Int)))) wz rfl (ai ?_)))
   refine af (aA rfl (drop_nil hD_5) (bA ?_))
   exact bg (s_7,n_10) rfl rfl (aI rfl)
  | cons x_4 l_3 =>
   obtain ⟨c_,hc_11,hL_12⟩:=bind_some hL_12
   refine af (aa (ae (vB (decide ((k_2:Int)<(l_1.length:Int)))) wz rfl (ai ?_)))
   refine af (ay rfl (eG hD_5) (ax ?_))
   unfold gH at hc_11
   refine af (aF (af (aa (fB xe rfl rfl (fe hD_5) rfl wz (di gP jK rfl (.d (.agg (Log_.enc x_4))) rfl wz (kC 0 (.inl rfl) z43 rfl wz (λn_15=>ni 0 il ft 1 gP rfl rfl [(vS x_4.Player),(vS x_4.Item),(vI x_4.No),(vI x_4.Clock),(vI x_4.Long),(vS x_4.Sum)] rfl wz (ai (aa (ae (gV n_10 1 s_7) wz rfl (aK 0 1 il ft gP jK rfl rfl (.d (.agg (Log_.enc x_4))) rfl wz ?_)))))))))))
   obtain ⟨r_16,hr_17,hc_11⟩:=bind_some hc_11
   refine au (qF hr_17) rfl hb67 rfl rfl rfl rfl wz (dC (([r_16]:List ByteArray).map eS) gu mY rfl rfl rfl rfl rfl wz ?_)
   obtain ⟨a_18,hz_19,hc_11⟩:=bind_some hc_11
   refine ko 0 il ft (i:=0) l9 l9 sz9 z9 rfl (by decide) by9 (by decide) (λ_=>rfl) rfl rfl rfl hz_19 wz (λn_20=>ae (gV n_20 1 a_18) wz rfl (ai (aa (kF (fu hD_5 hn_6) wz rfl (ae (vI ((k_2+1:Nat):Int)) wz rfl (ai ?_))))))
   obtain rfl:=ah hc_11
   exact bB (k_2+1,l_3,a_18,n_20) ⟨hL_12,bT hD_5⟩ (ls_ _) rfl (aI rfl)
 ·rintro ⟨s_7,n_10⟩ ho_ sl_ H_ hp_ hq_
  subst ho_
  refine aL _ hp_ hq_ (af (aa (ae (gV n_10 1 s_7) wz rfl (ae (gV n_10 1 s_7) wz rfl (ai (iO 0 rfl (dQ 2 0 rfl rfl (dQ 3 0 rfl rfl (dQ 18 0 rfl rfl ?_)))))))))
  obtain rfl:=ah hF
  exact av (aQ (.inr rfl) [(vL eS s_7)] ⟨rfl,trivial⟩ rfl rfl rfl)
theorem mK {a_1:ByteArray} {b_2:ByteArray} {r:ByteArray} (hF:gz a_1 b_2=some r) :
  FnM Tryz.prog 68 [(vS a_1),(vS b_2)] [] (vS r) []:=by
 refine FnM.of_wH ⟨Tryz.prog,11,[],[]⟩ rfl Tryz.func68 rfl rfl (lb_ rfl) (by kernel_rfl) ?_
 unfold gz at hF
 refine af (aa (ae (vS (⟨#[]⟩:ByteArray)) wz rfl (ai (af (aa (ae (vS a_1) wz rfl ?_))))))
 obtain ⟨s_3,hz_4,hF⟩:=bind_some hF
 refine fI rfl rfl hz_4 wz ?_
 obtain ⟨s_5,hz_6,hF⟩:=bind_some hF
 refine fI rfl rfl hz_6 wz (ae (vS b_2) wz rfl ?_)
 obtain ⟨s_7,hz_8,hF⟩:=bind_some hF
 refine fI rfl rfl hz_8 wz ?_
 obtain ⟨r_9,hr_10,hF⟩:=bind_some hF
 refine au (mM hr_10) rfl hb60 rfl rfl rfl rfl wz (ae (vS r_9) wz rfl (ai ?_))
 obtain rfl:=ah hF
 exact av (aQ (.inr rfl) [(vS r_9)] ⟨rfl,trivial⟩ rfl rfl rfl)
theorem nX {l_1:(List ByteArray)} {r:(List ByteArray)} (hF:iB l_1=some r) :
  FnM Tryz.prog 61 [(vL eS l_1)] [] (vL eS r) []:=by
 refine FnM.of_wH ⟨Tryz.prog,37,[],[]⟩ rfl Tryz.func61 rfl rfl (lb_ rfl) (by kernel_rfl) ?_
 unfold iB at hF
 refine af (aa (ae .nil wz rfl (ai (af (aa (ae .nil wz rfl (ai (af (af (aa (ae (vI 0) wz rfl (ai (mO (λn_8 => ?_))))))))))))))
 obtain ⟨o_13,hj_14,hF⟩:=bind_some hF
 obtain ⟨nq_34,hj_14⟩:=dV hj_14
 refine aD (β:=((List ByteArray)×Int)×Nm) (λp=>(λ(s_7:(List ByteArray)×Int) (n_10:Nm)=>([(3,(gV n_10 1 s_7.1))]:SL_)) p.1 p.2) (λp=>(λ(s_7:(List ByteArray)×Int) (n_10:Nm)=>([(n_10,gB 1 eS s_7.1)]:Hp)) p.1 p.2) (λp=>o_13 = .go p.1) ?_ ?_
 ·refine aF (bI (β:=Nat×((List ByteArray)×Int)×Nm) (λp=>(λ(k_2:Nat) (s_7:(List ByteArray)×Int) (n_10:Nm)=>([(0,(vL eS l_1)),(3,(gV n_10 1 s_7.1)),(4,(vI s_7.2))]:SL_)) p.1 p.2.1 p.2.2) (λp=>(λ(k_2:Nat) (s_7:(List ByteArray)×Int) (n_10:Nm)=>([(n_10,gB 1 eS s_7.1)]:Hp)) p.1 p.2.1 p.2.2) (λp=>aZ (λs=>ja l_1 s) p.1 p.2.1=some o_13) (λp=>p.1) (nq_34,(([]:List ByteArray),0),n_8) hj_14 rfl (aI rfl) ?_)
  rintro ⟨k_2,s_7,n_10⟩ hL_12
  dsimp only at hL_12
  cases k_2 with
  | zero=>cases hL_12
  | succ k_2 =>
   obtain ⟨c_,hc_11,hL_12⟩:=bind_some hL_12
   unfold ja at hc_11
   refine af (af (aa (ae (vI s_7.2) wz rfl (ae (vL eS l_1) wz rfl (bS kM rfl wz (ae (vB (decide (s_7.2<(l_1.length:Int)))) wz rfl (ai ?_)))))))
   rcases aj hc_11 with⟨hc_15,hc_11⟩|⟨hc_15,hc_11⟩
   ·refine ay rfl hc_15 (ax (af (aF (af (aa (ae (vI s_7.2) wz rfl (ae (vI (w64 (s_7.2+1))) wz rfl (ae (vL eS l_1) wz rfl (bS kM rfl wz (ae (vB (decide ((w64 (s_7.2+1))<(l_1.length:Int)))) wz rfl (ai ?_)))))))))))
    obtain ⟨v_16,h_17,hc_11⟩:=bind_some hc_11
    refine aD (β:=Nm) (λ(n_18:Nm)=>([(0,(vL eS l_1)),(3,(gV n_18 1 v_16)),(4,(vI s_7.2))]:SL_)) (λ(n_18:Nm)=>([(n_18,gB 1 eS v_16)]:Hp)) (λ_=>True) ?_ ?_
    ·rcases aj h_17 with⟨hc_19,h_17⟩|⟨hc_19,h_17⟩
     ·refine ay rfl hc_19 (dw (ae (gV n_10 1 s_7.1) wz rfl (ae (vL eS l_1) wz rfl (ae (vI s_7.2) wz rfl ?_))))
      obtain ⟨y_20,hy_21,h_17⟩:=bind_some h_17
      refine fB gu rfl rfl hy_21 rfl wz (di sz9 ag9 rfl (vS y_20) rfl wz (ae (vL eS l_1) wz rfl (ae (vI s_7.2) wz rfl (ae (vI (w64 (s_7.2+1))) wz rfl ?_))))
      obtain ⟨y_22,hy_23,h_17⟩:=bind_some h_17
      refine fB gu rfl rfl hy_23 rfl wz (di sz9 ag9 rfl (vS y_22) rfl wz ?_)
      obtain ⟨r_24,hr_25,h_17⟩:=bind_some h_17
      refine au (mK hr_25) rfl hb68 rfl rfl rfl rfl wz (dC (([r_24]:List ByteArray).map eS) gu mY rfl rfl rfl rfl rfl wz ?_)
      obtain ⟨a_26,hz_27,h_17⟩:=bind_some h_17
      refine ko 12 (.inr (by kernel_rfl)) (λ_ _ ag=>trivial) (i:=0) l9 l9 sz9 z9 rfl (by decide) by9 (by decide) (λ_=>rfl) rfl rfl rfl hz_27 wz (λn_28=>ae (gV n_28 1 a_26) wz rfl (ai ?_))
      obtain rfl:=ah h_17
      exact bg n_28 trivial rfl (aI rfl)
     ·refine aA rfl hc_19 (aa (ae (gV n_10 1 s_7.1) wz rfl (ae (vL eS l_1) wz rfl (ae (vI s_7.2) wz rfl ?_))))
      obtain ⟨y_29,hy_30,h_17⟩:=bind_some h_17
      refine fB gu rfl rfl hy_30 rfl wz (di sz9 ag9 rfl (vS y_29) rfl wz (dC (([y_29]:List ByteArray).map eS) gu mY rfl rfl rfl rfl rfl wz ?_))
      obtain ⟨a_31,hz_32,h_17⟩:=bind_some h_17
      refine ko 0 il ft (i:=0) l9 l9 sz9 z9 rfl (by decide) by9 (by decide) (λ_=>rfl) rfl rfl rfl hz_32 wz (λn_33=>ae (gV n_33 1 a_31) wz rfl (ai ?_))
      obtain rfl:=ah h_17
      exact bg n_33 trivial rfl (aI rfl)
    ·rintro n_18 _ sl_ H_ hp_ hq_
     refine aL _ hp_ hq_ (aa (ae (vI s_7.2) wz rfl (ae (vI (w64 (s_7.2+2))) wz rfl (ae (vI (w64 (s_7.2+2))) wz rfl (ai ?_)))))
     obtain rfl:=ah hc_11
     exact bB (k_2,(v_16,(w64 (s_7.2+2))),n_18) hL_12 (ls_ _) rfl (aI rfl)
   ·refine aA rfl hc_15 (bA ?_)
    obtain rfl:=ah hc_11
    obtain rfl:=ah hL_12
    exact bg ((s_7.1,s_7.2),n_10) rfl rfl (aI rfl)
 ·rintro ⟨s_7,n_10⟩ ho_ sl_ H_ hp_ hq_
  subst ho_
  refine aL _ hp_ hq_ (af (aa (ae (gV n_10 1 s_7.1) wz rfl (ae (gV n_10 1 s_7.1) wz rfl (ai (iO 0 rfl (dQ 2 0 rfl rfl (dQ 3 0 rfl rfl (dQ 36 0 rfl rfl ?_)))))))))
  obtain rfl:=ah hF
  exact av (aQ (.inr rfl) [(vL eS s_7.1)] ⟨rfl,trivial⟩ rfl rfl rfl)
theorem xn {l_1:(List Log_)} {r:ByteArray×Int} (hF:jP l_1=some r) :
  FnM Tryz.prog 9 [(vL Log_.enc l_1)] [] (.tup [(vS r.1),(vI r.2)]) []:=by
 refine FnM.of_wH ⟨Tryz.prog,25,[],[]⟩ rfl Tryz.func9 rfl rfl (lb_ rfl) (by kernel_rfl) ?_
 unfold jP at hF
 refine af (aa (ae (vS (⟨#[]⟩:ByteArray)) wz rfl (ae (vI 0) wz rfl (ai (af (af (aa (ae (vL Log_.enc l_1) wz rfl ?_))))))))
 obtain ⟨r_2,hr_3,hF⟩:=bind_some hF
 refine au (lM hr_3) rfl hb39 rfl rfl rfl rfl wz (ae (vI r_2) wz rfl (ai (af (aa (ae (vI r_2) wz rfl (ae (vB (r_2 != 0)) wz rfl (ai ?_)))))))
 rcases aj hF with⟨hc_4,hF⟩|⟨hc_4,hF⟩
 ·refine ay rfl hc_4 (af (aa (ae (vI r_2) wz rfl (ae (vS (⟨#[]⟩:ByteArray)) wz rfl (ae (vI r_2) wz rfl (ai ?_))))))
  obtain rfl:=ah hF
  exact av (aQ (.inr rfl) [(vS (⟨#[]⟩:ByteArray)),(vI r_2)] ⟨rfl,⟨rfl,trivial⟩⟩ rfl rfl rfl)
 ·refine aA rfl hc_4 (ax (af (aa (ae (vL Log_.enc l_1) wz rfl ?_))))
  obtain ⟨r_5,hr_6,hF⟩:=bind_some hF
  refine au (nZ hr_6) rfl hb59 rfl rfl rfl rfl wz (ae (vL eS r_5) wz rfl (ai (af (af (aa (ae (vL eS r_5) wz rfl (bS kM rfl wz (ae (vB ((r_5.length:Int)==0)) wz rfl (ai ?_)))))))))
  rcases aj hF with⟨hc_7,hF⟩|⟨hc_7,hF⟩
  ·refine ay rfl hc_7 (af (aa ?_))
   obtain ⟨r_8,hr_9,hF⟩:=bind_some hF
   refine au (mM hr_9) rfl hb60 rfl rfl rfl rfl wz (ae (vS r_8) wz rfl (ae (vI 0) wz rfl (ai ?_)))
   obtain rfl:=ah hF
   exact av (aQ (.inr rfl) [(vS r_8),(vI 0)] ⟨rfl,⟨rfl,trivial⟩⟩ rfl rfl rfl)
  ·refine aA rfl hc_7 (ax (af ?_))
   obtain ⟨o_18,hj_19,hF⟩:=bind_some hF
   obtain ⟨nq_25,hj_19⟩:=dV hj_19
   refine aD (β:=((List ByteArray))) (λ(s_15:List ByteArray)=>([(5,(vL eS s_15))]:SL_)) (λ(s_15:List ByteArray)=>([]:Hp)) (λp=>o_18 = .go p) ?_ ?_
   ·refine aF (bI (β:=Nat×((List ByteArray))) (λp=>(λ(k_10:Nat) (s_15:List ByteArray)=>([(5,(vL eS s_15))]:SL_)) p.1 p.2) (λp=>(λ(k_10:Nat) (s_15:List ByteArray)=>([]:Hp)) p.1 p.2) (λp=>aZ (λs=>fF s) p.1 p.2=some o_18) (λp=>p.1) (nq_25,r_5) hj_19 rfl (aI rfl) ?_)
    rintro ⟨k_10,s_15⟩ hL_17
    dsimp only at hL_17
    cases k_10 with
    | zero=>cases hL_17
    | succ k_10 =>
     obtain ⟨c_,hc_16,hL_17⟩:=bind_some hL_17
     unfold fF at hc_16
     refine af (af (aa (ae (vL eS s_15) wz rfl (bS kM rfl wz (ae (vB (decide ((s_15.length:Int)>1))) wz rfl (ai ?_))))))
     rcases aj hc_16 with⟨hc_20,hc_16⟩|⟨hc_20,hc_16⟩
     ·refine ay rfl hc_20 (ax (aF (aa (ae (vL eS s_15) wz rfl ?_))))
      obtain ⟨r_21,hr_22,hc_16⟩:=bind_some hc_16
      refine au (nX hr_22) rfl hb61 rfl rfl rfl rfl wz (ae (vL eS r_21) wz rfl (ai ?_))
      obtain rfl:=ah hc_16
      exact bB (k_10,r_21) hL_17 (ls_ _) rfl (aI rfl)
     ·refine aA rfl hc_20 (bA ?_)
      obtain rfl:=ah hc_16
      obtain rfl:=ah hL_17
      exact bg (s_15) rfl rfl (aI rfl)
   ·rintro s_15 ho_ sl_ H_ hp_ hq_
    subst ho_
    refine aL _ hp_ hq_ (af (aa (ae (vL eS s_15) wz rfl ?_)))
    obtain ⟨y_23,hy_24,hF⟩:=bind_some hF
    refine fB gu rfl rfl hy_24 rfl wz (di sz9 ag9 rfl (vS y_23) rfl wz (ae (vS y_23) wz rfl (ae (vI 0) wz rfl (ai ?_))))
    obtain rfl:=ah hF
    exact av (aQ (.inr rfl) [(vS y_23),(vI 0)] ⟨rfl,⟨rfl,trivial⟩⟩ rfl rfl rfl)
theorem pX {n_1:Int} {low_2:Int} {high_3:Int} {r:Bool} (hF:nL n_1 low_2 high_3=some r) :
  FnM Tryz.prog 71 [(vI n_1),(vI low_2),(vI high_3)] [] (vB r) []:=by
 refine FnM.of_wH ⟨Tryz.prog,15,[],[]⟩ rfl Tryz.func71 rfl rfl (lb_ rfl) (by kernel_rfl) ?_
 unfold nL at hF
 refine af (aa (ae (vB false) wz rfl (ai (af ?_))))
 obtain ⟨v_4,h_5,hF⟩:=bind_some hF
 refine aD (β:=Unit) (λ_=>([(6,(vB v_4))]:SL_)) (λ_=>([]:Hp)) (λ_=>True) ?_ ?_
 ·refine aa (ae (vI low_2) wz rfl (ae (vI n_1) wz rfl (ae (vB (decide (low_2<=n_1))) wz rfl ?_)))
  rcases aj h_5 with⟨hc_6,h_5⟩|⟨hc_6,h_5⟩
  ·refine aC rfl hc_6 wz (ae (vI n_1) wa rfl (ae (vI high_3) wa rfl (ae (vB (decide (n_1<=high_3))) wa rfl (ae (vB (decide (n_1<=high_3))) wz rfl (ae (vB (decide (n_1<=high_3))) wz rfl (ai ?_))))))
   obtain rfl:=ah h_5
   exact cu
  ·refine aC rfl hc_6 wz (ak wa (ak wa (ak wa (ae (vB false) wz rfl (ae (vB false) wz rfl (ai ?_))))))
   obtain rfl:=ah h_5
   exact cu
 ·rintro ⟨⟩ _ sl_ H_ hp_ hq_
  refine aL _ hp_ hq_ ?_
  obtain rfl:=ah hF
  exact av (aQ (.inr rfl) [(vB v_4)] ⟨rfl,trivial⟩ rfl rfl rfl)
theorem jo {s_1:ByteArray} {c_2:Int} {r:Int} (hF:bX s_1 c_2=some r) :
  FnM Tryz.prog 144 [(vS s_1),(.d (.int .u8 c_2))] [] (vI r) []:=by
 refine FnM.of_wH ⟨Tryz.prog,8,[],[]⟩ rfl Tryz.func144 rfl rfl (lb_ rfl) (by kernel_rfl) ?_
 unfold bX at hF
 refine af (aa (ae (vI 0) wz rfl (ai (af (aa (ae (vS s_1) wz rfl (ae (.d (.int .u8 c_2)) wz rfl (h_ext (ext_ixB (f:=189) Tryz.func189 rfl rfl (by kernel_rfl) (by kernel_rfl) _ _) rfl nb189 rfl wz (ae (vI (ixB s_1 c_2)) wz rfl (ai ?_))))))))))
 obtain rfl:=ah hF
 exact av (aQ (.inr rfl) [(vI (ixB s_1 c_2))] ⟨rfl,trivial⟩ rfl rfl rfl)
theorem pG {s_1:ByteArray} {c_2:Int} {r:Int} (hF:strings_IndexByte s_1 c_2=some r) :
  FnM Tryz.prog 113 [(vS s_1),(.d (.int .u8 c_2))] [] (vI r) []:=by
 refine FnM.of_wH ⟨Tryz.prog,8,[],[]⟩ rfl Tryz.func113 rfl rfl (lb_ rfl) (by kernel_rfl) ?_
 unfold strings_IndexByte at hF
 refine af (aa (ae (vI 0) wz rfl (ai (af (aa (ae (vS s_1) wz rfl (ae (.d (.int .u8 c_2)) wz rfl ?_)))))))
 obtain ⟨r_3,hr_4,hF⟩:=bind_some hF
 refine au (jo hr_4) rfl hb144 rfl rfl rfl rfl wz (ae (vI r_3) wz rfl (ai ?_))
 obtain rfl:=ah hF
 exact av (aQ (.inr rfl) [(vI r_3)] ⟨rfl,trivial⟩ rfl rfl rfl)
theorem o6 {s_1:ByteArray} {somev_2:ByteArray} {r:Bool} (hF:kK s_1 somev_2=some r) :
  FnM Tryz.prog 69 [(vS s_1),(vS somev_2)] [] (vB r) []:=by
 refine FnM.of_wH ⟨Tryz.prog,18,[],[]⟩ rfl Tryz.func69 rfl rfl (lb_ rfl) (by kernel_rfl) ?_
 unfold kK at hF
 refine af (aa (ae (vB false) wz rfl (ai (af (af (aa (ae (vS s_1) wz rfl (o8 un9 rfl wz (ae (vI 0) wz rfl (ai ?_))))))))))
 obtain ⟨o_11,hj_12,hF⟩:=bind_some hF
 obtain ⟨hn_7,hj_12⟩:=dx hj_12
 refine aD (β:=(Unit)) (λ(s_8:Unit)=>([]:SL_)) (λ(s_8:Unit)=>([]:Hp)) (λp=>o_11 = .go p) ?_ ?_
 ·refine aF (bI (β:=Nat×(List Nat)×(Unit)) (λp=>(λ(k_3:Nat) (l_4:List Nat) (s_8:Unit)=>([(0,(vS s_1)),(1,(vS somev_2)),(7,(vI (s_1.size:Int))),(8,(vI (k_3:Int)))]:SL_)) p.1 p.2.1 p.2.2) (λp=>(λ(k_3:Nat) (l_4:List Nat) (s_8:Unit)=>([]:Hp)) p.1 p.2.1 p.2.2) (λp=>dW (λk x s=>jk s_1 somev_2 k x s) p.2.1 p.1 p.2.2=some o_11/\((List.range ((s_1.size:Int)).toNat)).drop p.1=p.2.1) (λp=>p.2.1.length) (0,(List.range ((s_1.size:Int)).toNat),()) ⟨hj_12,rfl⟩ rfl (aI rfl) ?_)
  rintro ⟨k_3,l_4,s_8⟩ ⟨hL_10,hD_6⟩
  dsimp only at hL_10 hD_6
  cases l_4 with
  | nil =>
   obtain rfl:=ah hL_10
   refine af (aa (ae (vB (decide ((k_3:Int)<(s_1.size:Int)))) wz rfl (ai ?_)))
   refine af (aA rfl (pO hD_6) (bA ?_))
   exact bg (s_8) rfl rfl (aI rfl)
  | cons x_5 l_4 =>
   obtain ⟨c_,hc_9,hL_10⟩:=bind_some hL_10
   refine af (aa (ae (vB (decide ((k_3:Int)<(s_1.size:Int)))) wz rfl (ai ?_)))
   refine af (ay rfl (nJ hD_6) (ax ?_))
   unfold jk at hc_9
   refine af (aF (af (aa (ae (vI (k_3:Int)) wz rfl (ae (vI (k_3:Int)) wz rfl (ai (af (aa (ae (vS somev_2) wz rfl (ae (vS s_1) wz rfl (ae (vI (k_3:Int)) wz rfl ?_)))))))))))
   obtain ⟨b_13,hy_14,hc_9⟩:=bind_some hc_9
   refine qR un9 rfl rfl hy_14 wz ?_
   obtain ⟨r_15,hr_16,hc_9⟩:=bind_some hc_9
   refine au (pG hr_16) rfl hb113 rfl rfl rfl rfl wz (ae (vB (decide (r_15<0))) wz rfl (ai ?_))
   rcases aj hc_9 with⟨hc_17,hc_9⟩|⟨hc_17,hc_9⟩
   ·refine ay rfl hc_17 (af (aa (ae (vB false) wz rfl (ai ?_))))
    obtain rfl:=ah hc_9
    obtain rfl:=ah hL_10
    obtain rfl:=ah hF
    exact av (aQ (.inr rfl) [(vB false)] ⟨rfl,trivial⟩ rfl rfl rfl)
   ·refine aA rfl hc_17 (ax (aa (kF (pI hD_6 hn_7) wz rfl (ae (vI ((k_3+1:Nat):Int)) wz rfl (ai ?_)))))
    obtain rfl:=ah hc_9
    exact bB (k_3+1,l_4,()) ⟨hL_10,bT hD_6⟩ (ls_ _) rfl (aI rfl)
 ·rintro s_8 ho_ sl_ H_ hp_ hq_
  subst ho_
  refine aL _ hp_ hq_ (af (aa (ae (vB true) wz rfl (ai ?_))))
  obtain rfl:=ah hF
  exact av (aQ (.inr rfl) [(vB true)] ⟨rfl,trivial⟩ rfl rfl rfl)
theorem wJ {s_1:ByteArray} {r:Bool} (hF:pM s_1=some r) :
  FnM Tryz.prog 70 [(vS s_1)] [] (vB r) []:=by
 refine FnM.of_wH ⟨Tryz.prog,15,[],[]⟩ rfl Tryz.func70 rfl rfl (lb_ rfl) (by kernel_rfl) ?_
 unfold pM at hF
 refine af (aa (ae (vB false) wz rfl (ai (af ?_))))
 obtain ⟨v_2,h_3,hF⟩:=bind_some hF
 refine aD (β:=Unit) (λ_=>([(2,(vB v_2))]:SL_)) (λ_=>([]:Hp)) (λ_=>True) ?_ ?_
 ·refine aa (ae (vS s_1) wz rfl (o8 un9 rfl wz ?_))
  obtain ⟨r_4,hr_5,h_3⟩:=bind_some h_3
  refine au (pX hr_5) rfl hb71 rfl rfl rfl rfl wz ?_
  rcases aj h_3 with⟨hc_6,h_3⟩|⟨hc_6,h_3⟩
  ·refine aC rfl hc_6 wz (ae (vS s_1) wa rfl ?_)
   obtain ⟨y_7,hy_8,h_3⟩:=bind_some h_3
   refine vX un9 rfl rfl hy_8 wa ?_
   obtain ⟨r_9,hr_10,h_3⟩:=bind_some h_3
   refine au (o6 hr_10) rfl hb69 rfl rfl rfl rfl wa (ae (vB r_9) wz rfl ?_)
   rcases aj h_3 with⟨hc_11,h_3⟩|⟨hc_11,h_3⟩
   ·refine aC rfl hc_11 wz (ae (vS s_1) wa rfl ?_)
    obtain ⟨r_12,hr_13,h_3⟩:=bind_some h_3
    refine au (o6 hr_13) rfl hb69 rfl rfl rfl rfl wa (ae (vB r_12) wz rfl (ae (vB r_12) wz rfl (ai ?_)))
    obtain rfl:=ah h_3
    exact cu
   ·refine aC rfl hc_11 wz (ak wa (ak wa (ae (vB false) wz rfl (ae (vB false) wz rfl (ai ?_)))))
    obtain rfl:=ah h_3
    exact cu
  ·refine aC rfl hc_6 wz (ak wa (ak wa (ak wa (ae (vB false) wz rfl (ae (vB false) wz rfl (ak wa (ak wa (ae (vB false) wz rfl (ae (vB false) wz rfl (ai ?_))))))))))
   obtain rfl:=ah h_3
   exact cu
 ·rintro ⟨⟩ _ sl_ H_ hp_ hq_
  refine aL _ hp_ hq_ ?_
  obtain rfl:=ah hF
  exact av (aQ (.inr rfl) [(vB v_2)] ⟨rfl,trivial⟩ rfl rfl rfl)
theorem wU {atv_1:Int} {r:Bool} (hF:lZ atv_1=some r) :
  FnM Tryz.prog 72 [(vI atv_1)] [] (vB r) []:=by
 refine FnM.of_wH ⟨Tryz.prog,5,[],[]⟩ rfl Tryz.func72 rfl rfl (lb_ rfl) (by kernel_rfl) ?_
 unfold lZ at hF
 refine af (aa (ae (vB false) wz rfl (ai (af (aa (ae (vI atv_1) wz rfl ?_))))))
 obtain ⟨r_2,hr_3,hF⟩:=bind_some hF
 refine au (pX hr_3) rfl hb71 rfl rfl rfl rfl wz (ae (vB r_2) wz rfl (ai ?_))
 obtain rfl:=ah hF
 exact av (aQ (.inr rfl) [(vB r_2)] ⟨rfl,trivial⟩ rfl rfl rfl)
theorem iw {l_1:Log_} {r:Int} (hF:dz l_1=some r) :
  FnM Tryz.prog 24 [(.d (.agg (Log_.enc l_1)))] [] (vI r) []:=by
 refine FnM.of_wH ⟨Tryz.prog,31,[],[]⟩ rfl Tryz.func24 rfl rfl (lb_ rfl) (by kernel_rfl) ?_
 unfold dz at hF
 refine af (aa (kN 0 (.inl rfl) [(vS l_1.Player),(vS l_1.Item),(vI l_1.No),(vI l_1.Clock),(vI l_1.Long),(vS l_1.Sum)] rfl rfl wz (λn_2=>ae (vI 0) wz rfl (ai (af (aF (af ?_)))))))
 obtain ⟨v_3,h_4,hF⟩:=bind_some hF
 refine aD (β:=Unit) (λ_=>([(1,(.ref n_2 0 0)),(3,(vB v_3))]:SL_)) (λ_=>([(n_2,some (.cells 6 [(vS l_1.Player),(vS l_1.Item),(vI l_1.No),(vI l_1.Clock),(vI l_1.Long),(vS l_1.Sum)]))]:Hp)) (λ_=>True) ?_ ?_
 ·refine aa (aN kU rfl 0 rfl wz (aK 0 0 il ft sz9 ag9 rfl rfl (vS l_1.Player) rfl wz ?_))
  obtain ⟨r_5,hr_6,h_4⟩:=bind_some h_4
  refine au (wJ hr_6) rfl hb70 rfl rfl rfl rfl wz (ae (vB (!r_5)) wz rfl ?_)
  rcases aj h_4 with⟨hc_7,h_4⟩|⟨hc_7,h_4⟩
  ·refine aC rfl hc_7 wz (ak wa (ak wa (ak wa (ak wa (ae (vB true) wz rfl (ae (vB true) wz rfl (ai ?_)))))))
   obtain rfl:=ah h_4
   exact cu
  ·refine aC rfl hc_7 wz (aN sj rfl 1 rfl wa (aK 0 0 il ft sz9 ag9 rfl rfl (vS l_1.Item) rfl wa ?_))
   obtain ⟨r_8,hr_9,h_4⟩:=bind_some h_4
   refine au (wJ hr_9) rfl hb70 rfl rfl rfl rfl wa (ae (vB (!r_8)) wa rfl (ae (vB (!r_8)) wz rfl (ae (vB (!r_8)) wz rfl (ai ?_))))
   obtain rfl:=ah h_4
   exact cu
 ·rintro ⟨⟩ _ sl_ H_ hp_ hq_
  refine aL _ hp_ hq_ ?_
  rcases aj hF with⟨hc_10,hF⟩|⟨hc_10,hF⟩
  ·refine ay rfl hc_10 (af (aa (ae (vI 5) wz rfl (ai ?_))))
   obtain rfl:=ah hF
   exact av (aQ (.inr rfl) [(vI 5)] ⟨rfl,trivial⟩ rfl rfl rfl)
  ·refine aA rfl hc_10 (af ?_)
   obtain ⟨v_11,h_12,hF⟩:=bind_some hF
   refine aD (β:=Unit) (λ_=>([(14,(vB v_11))]:SL_)) (λ_=>([(n_2,some (.cells 6 [(vS l_1.Player),(vS l_1.Item),(vI l_1.No),(vI l_1.Clock),(vI l_1.Long),(vS l_1.Sum)]))]:Hp)) (λ_=>True) ?_ ?_
   ·refine aa (aN nP rfl 2 rfl wz (aK 0 0 il ft sz3 ag3 rfl rfl (vI l_1.No) rfl wz ?_))
    obtain ⟨r_13,hr_14,h_12⟩:=bind_some h_12
    refine au (pX hr_14) rfl hb71 rfl rfl rfl rfl wz (ae (vB (!r_13)) wz rfl ?_)
    rcases aj h_12 with⟨hc_15,h_12⟩|⟨hc_15,h_12⟩
    ·refine aC rfl hc_15 wz (ak wa (ak wa (ak wa (ak wa (ae (vB true) wz rfl (ae (vB true) wz rfl (ak wa (ak wa (ak wa (ak wa (ae (vB true) wz rfl (ae (vB true) wz rfl (ai ?_)))))))))))))
     obtain rfl:=ah h_12
     exact cu
    ·refine aC rfl hc_15 wz (aN wP rfl 3 rfl wa (aK 0 0 il ft sz3 ag3 rfl rfl (vI l_1.Clock) rfl wa ?_))
     obtain ⟨r_16,hr_17,h_12⟩:=bind_some h_12
     refine au (wU hr_17) rfl hb72 rfl rfl rfl rfl wa (ae (vB (!r_16)) wa rfl (ae (vB (!r_16)) wz rfl ?_))
     rcases aj h_12 with⟨hc_18,h_12⟩|⟨hc_18,h_12⟩
     ·refine aC rfl hc_18 wz (ak wa (ak wa (ak wa (ak wa (ae (vB true) wz rfl (ae (vB true) wz rfl (ai ?_)))))))
      obtain rfl:=ah h_12
      exact cu
     ·refine aC rfl hc_18 wz (aN ww rfl 4 rfl wa (aK 0 0 il ft sz3 ag3 rfl rfl (vI l_1.Long) rfl wa ?_))
      obtain ⟨r_19,hr_20,h_12⟩:=bind_some h_12
      refine au (pX hr_20) rfl hb71 rfl rfl rfl rfl wa (ae (vB (!r_19)) wa rfl (ae (vB (!r_19)) wz rfl (ae (vB (!r_19)) wz rfl (ai ?_))))
      obtain rfl:=ah h_12
      exact cu
   ·rintro ⟨⟩ _ sl_ H_ hp_ hq_
    refine aL _ hp_ hq_ ?_
    rcases aj hF with⟨hc_21,hF⟩|⟨hc_21,hF⟩
    ·refine ay rfl hc_21 (af (aa (ae (vI 1) wz rfl (ai ?_))))
     obtain rfl:=ah hF
     exact av (aQ (.inr rfl) [(vI 1)] ⟨rfl,trivial⟩ rfl rfl rfl)
    ·refine aA rfl hc_21 (ax (af (aa (ae (vI 0) wz rfl (ai ?_)))))
     obtain rfl:=ah hF
     exact av (aQ (.inr rfl) [(vI 0)] ⟨rfl,trivial⟩ rfl rfl rfl)
theorem fG {s_1:ByteArray} {r:Bool} (hF:bP s_1=some r) :
  FnM Tryz.prog 23 [(vS s_1)] [] (vB r) []:=by
 refine FnM.of_wH ⟨Tryz.prog,10,[],[]⟩ rfl Tryz.func23 rfl rfl (lb_ rfl) (by kernel_rfl) ?_
 unfold bP at hF
 refine af (aa (ae (vB false) wz rfl (ai (af ?_))))
 obtain ⟨v_2,h_3,hF⟩:=bind_some hF
 refine aD (β:=Unit) (λ_=>([(2,(vB v_2))]:SL_)) (λ_=>([]:Hp)) (λ_=>True) ?_ ?_
 ·refine aa (ae (vS s_1) wz rfl (o8 un9 rfl wz (ae (vB ((s_1.size:Int)==16)) wz rfl ?_)))
  rcases aj h_3 with⟨hc_4,h_3⟩|⟨hc_4,h_3⟩
  ·refine aC rfl hc_4 wz (ae (vS s_1) wa rfl ?_)
   obtain ⟨r_5,hr_6,h_3⟩:=bind_some h_3
   refine au (o6 hr_6) rfl hb69 rfl rfl rfl rfl wa (ae (vB r_5) wz rfl (ae (vB r_5) wz rfl (ai ?_)))
   obtain rfl:=ah h_3
   exact cu
  ·refine aC rfl hc_4 wz (ak wa (ak wa (ae (vB false) wz rfl (ae (vB false) wz rfl (ai ?_)))))
   obtain rfl:=ah h_3
   exact cu
 ·rintro ⟨⟩ _ sl_ H_ hp_ hq_
  refine aL _ hp_ hq_ ?_
  obtain rfl:=ah hF
  exact av (aQ (.inr rfl) [(vB v_2)] ⟨rfl,trivial⟩ rfl rfl rfl)
theorem zG {n_1:Int} {r:Int} (hF:oZ n_1=some r) :
  FnM Tryz.prog 108 [(vI n_1)] [] (vI r) []:=by
 refine FnM.of_wH ⟨Tryz.prog,9,[],[]⟩ rfl Tryz.func108 rfl rfl (lb_ rfl) (by kernel_rfl) ?_
 unfold oZ at hF
 refine af (aa (ae (vI 0) wz rfl (ai (af (aF (af (aa (ae (vI n_1) wz rfl (ae (vB (decide (n_1<0))) wz rfl (ae (vB (decide (n_1<0))) wz rfl (ai ?_)))))))))))
 rcases aj hF with⟨hc_2,hF⟩|⟨hc_2,hF⟩
 ·refine ay rfl hc_2 (af (aa (ae (vI (-1)) wz rfl (ai ?_))))
  obtain rfl:=ah hF
  exact av (aQ (.inr rfl) [(vI (-1))] ⟨rfl,trivial⟩ rfl rfl rfl)
 ·refine aA rfl hc_2 (af (aa (ae (vI n_1) wz rfl (ae (vB (decide (n_1>0))) wz rfl (ae (vB (decide (n_1>0))) wz rfl (ai ?_))))))
  rcases aj hF with⟨hc_3,hF⟩|⟨hc_3,hF⟩
  ·refine ay rfl hc_3 (af (aa (ae (vI 1) wz rfl (ai ?_))))
   obtain rfl:=ah hF
   exact av (aQ (.inr rfl) [(vI 1)] ⟨rfl,trivial⟩ rfl rfl rfl)
  ·refine aA rfl hc_3 (ax (af (aa (ae (vI 0) wz rfl (ai ?_)))))
   obtain rfl:=ah hF
   exact av (aQ (.inr rfl) [(vI 0)] ⟨rfl,trivial⟩ rfl rfl rfl)
theorem uu {a_1:Log_} {b_2:Log_} {r:Int} (hF:jC a_1 b_2=some r) :
  FnM Tryz.prog 62 [(.d (.agg (Log_.enc a_1))),(.d (.agg (Log_.enc b_2)))] [] (vI r) []:=by
 refine FnM.of_wH ⟨Tryz.prog,21,[],[]⟩ rfl Tryz.func62 rfl rfl (lb_ rfl) (by kernel_rfl) ?_
 unfold jC at hF
 refine af (aa (kN 0 (.inl rfl) [(vS a_1.Player),(vS a_1.Item),(vI a_1.No),(vI a_1.Clock),(vI a_1.Long),(vS a_1.Sum)] rfl rfl wz (λn_3=>kN 0 (.inl rfl) [(vS b_2.Player),(vS b_2.Item),(vI b_2.No),(vI b_2.Clock),(vI b_2.Long),(vS b_2.Sum)] rfl rfl wz (λn_4=>ae (vI 0) wz rfl (ai (af (af (aa (aN kU rfl 0 rfl wz (aK 0 0 il ft sz9 ag9 rfl rfl (vS a_1.Player) rfl wz (aN kU rfl 0 rfl wz (aK 0 1 il ft sz9 ag9 rfl rfl (vS b_2.Player) rfl wz (ae (vB (sNe a_1.Player b_2.Player)) wz rfl (ai ?_))))))))))))))
 rcases aj hF with⟨hc_5,hF⟩|⟨hc_5,hF⟩
 ·refine ay rfl hc_5 (af (aa (aN kU rfl 0 rfl wz (aK 0 0 il ft sz9 ag9 rfl rfl (vS a_1.Player) rfl wz (aN kU rfl 0 rfl wz (aK 0 1 il ft sz9 ag9 rfl rfl (vS b_2.Player) rfl wz ?_))))))
  obtain ⟨r_6,hr_7,hF⟩:=bind_some hF
  refine au (jb hr_7) rfl DN rfl rfl rfl rfl wz (ae (vI r_6) wz rfl (ai ?_))
  obtain rfl:=ah hF
  exact av (aQ (.inr rfl) [(vI r_6)] ⟨rfl,trivial⟩ rfl rfl rfl)
 ·refine aA rfl hc_5 (ax (af (aa (aN nP rfl 2 rfl wz (aK 0 0 il ft sz3 ag3 rfl rfl (vI a_1.No) rfl wz (aN nP rfl 2 rfl wz (aK 0 1 il ft sz3 ag3 rfl rfl (vI b_2.No) rfl wz (ae (vI (w64 (a_1.No-b_2.No))) wz rfl ?_))))))))
  obtain ⟨r_8,hr_9,hF⟩:=bind_some hF
  refine au (zG hr_9) rfl hb108 rfl rfl rfl rfl wz (ae (vI r_8) wz rfl (ai ?_))
  obtain rfl:=ah hF
  exact av (aQ (.inr rfl) [(vI r_8)] ⟨rfl,trivial⟩ rfl rfl rfl)
theorem sP {l_1:(List Log_)} {r:Int} (hF:iW l_1=some r) :
  FnM Tryz.prog 10 [(vL Log_.enc l_1)] [] (vI r) []:=by
 refine FnM.of_wH ⟨Tryz.prog,40,[],[]⟩ rfl Tryz.func10 rfl rfl (lb_ rfl) (by kernel_rfl) ?_
 unfold iW at hF
 refine af (aa (ae (vI 0) wz rfl (ai (af (af (aa (ae (vL Log_.enc l_1) wz rfl (bS rR rfl wz (ae (vB (decide ((l_1.length:Int)>2000))) wz rfl (ai ?_))))))))))
 rcases aj hF with⟨hc_2,hF⟩|⟨hc_2,hF⟩
 ·refine ay rfl hc_2 (af (aa (ae (vI 2) wz rfl (ai ?_))))
  obtain rfl:=ah hF
  exact av (aQ (.inr rfl) [(vI 2)] ⟨rfl,trivial⟩ rfl rfl rfl)
 ·refine aA rfl hc_2 (ax (af (af (aa (ae (vL Log_.enc l_1) wz rfl (bS rR rfl wz (ae (vI 0) wz rfl (ai ?_))))))))
  obtain ⟨o_11,hj_12,hF⟩:=bind_some hF
  obtain ⟨hn_7,hj_12⟩:=dx hj_12
  refine aD (β:=(Unit)) (λ(s_8:Unit)=>([]:SL_)) (λ(s_8:Unit)=>([]:Hp)) (λp=>o_11 = .go p) ?_ ?_
  ·refine aF (bI (β:=Nat×(List Log_)×(Unit)) (λp=>(λ(k_3:Nat) (l_4:List Log_) (s_8:Unit)=>([(0,(vL Log_.enc l_1)),(9,(vL Log_.enc l_1)),(10,(vI (l_1.length:Int))),(11,(vI (k_3:Int)))]:SL_)) p.1 p.2.1 p.2.2) (λp=>(λ(k_3:Nat) (l_4:List Log_) (s_8:Unit)=>([]:Hp)) p.1 p.2.1 p.2.2) (λp=>dW (λk x s=>iE l_1 k x s) p.2.1 p.1 p.2.2=some o_11/\(l_1).drop p.1=p.2.1) (λp=>p.2.1.length) (0,l_1,()) ⟨hj_12,rfl⟩ rfl (aI rfl) ?_)
   rintro ⟨k_3,l_4,s_8⟩ ⟨hL_10,hD_6⟩
   dsimp only at hL_10 hD_6
   cases l_4 with
   | nil =>
    obtain rfl:=ah hL_10
    refine af (aa (ae (vB (decide ((k_3:Int)<(l_1.length:Int)))) wz rfl (ai ?_)))
    refine af (aA rfl (drop_nil hD_6) (bA ?_))
    exact bg (s_8) rfl rfl (aI rfl)
   | cons x_5 l_4 =>
    obtain ⟨c_,hc_9,hL_10⟩:=bind_some hL_10
    refine af (aa (ae (vB (decide ((k_3:Int)<(l_1.length:Int)))) wz rfl (ai ?_)))
    refine af (ay rfl (eG hD_6) (ax ?_))
    unfold iE at hc_9
    refine af (aF (af (aa (ae (vI (k_3:Int)) wz rfl (fB xe rfl rfl (fe hD_6) rfl wz (di gP jK rfl (.d (.agg (Log_.enc x_5))) rfl wz (kC 0 (.inl rfl) z43 rfl wz (λn_13=>ae (vI (k_3:Int)) wz rfl (ni 0 il ft 0 gP rfl rfl [(vS x_5.Player),(vS x_5.Item),(vI x_5.No),(vI x_5.Clock),(vI x_5.Long),(vS x_5.Sum)] rfl wz (ai (af (af (aa (aK 0 0 il ft gP jK rfl rfl (.d (.agg (Log_.enc x_5))) rfl wz ?_))))))))))))))
    obtain ⟨r_14,hr_15,hc_9⟩:=bind_some hc_9
    refine au (iw hr_15) rfl EP rfl rfl rfl rfl wz (ae (vI r_14) wz rfl (ai (af (aa (ae (vI r_14) wz rfl (ae (vB (r_14 != 0)) wz rfl (ai ?_)))))))
    rcases aj hc_9 with⟨hc_16,hc_9⟩|⟨hc_16,hc_9⟩
    ·refine ay rfl hc_16 (af (aa (ae (vI r_14) wz rfl (ae (vI r_14) wz rfl (ai ?_)))))
     obtain rfl:=ah hc_9
     obtain rfl:=ah hL_10
     obtain rfl:=ah hF
     exact av (aQ (.inr rfl) [(vI r_14)] ⟨rfl,trivial⟩ rfl rfl rfl)
    ·refine aA rfl hc_16 (ax (aF (af (aa (aN jH rfl 5 rfl wz (aK 0 0 il ft sz9 ag9 rfl rfl (vS x_5.Sum) rfl wz ?_))))))
     obtain ⟨r_17,hr_18,hc_9⟩:=bind_some hc_9
     refine au (fG hr_18) rfl Br rfl rfl rfl rfl wz (ae (vB (!r_17)) wz rfl (ae (vB (!r_17)) wz rfl (ai ?_)))
     rcases aj hc_9 with⟨hc_19,hc_9⟩|⟨hc_19,hc_9⟩
     ·refine ay rfl hc_19 (af (aa (ae (vI 3) wz rfl (ai ?_))))
      obtain rfl:=ah hc_9
      obtain rfl:=ah hL_10
      obtain rfl:=ah hF
      exact av (aQ (.inr rfl) [(vI 3)] ⟨rfl,trivial⟩ rfl rfl rfl)
     ·refine aA rfl hc_19 (af ?_)
      obtain ⟨v_20,h_21,hc_9⟩:=bind_some hc_9
      refine aD (β:=Unit) (λ_=>([(0,(vL Log_.enc l_1)),(9,(vL Log_.enc l_1)),(10,(vI (l_1.length:Int))),(11,(vI (k_3:Int))),(26,(vB v_20))]:SL_)) (λ_=>([(n_13,some (.cells 6 [(vS x_5.Player),(vS x_5.Item),(vI x_5.No),(vI x_5.Clock),(vI x_5.Long),(vS x_5.Sum)]))]:Hp)) (λ_=>True) ?_ ?_
      ·refine dw (ae (vI (k_3:Int)) wz rfl (ae (vB (decide ((k_3:Int)>0))) wz rfl ?_))
       rcases aj h_21 with⟨hc_22,h_21⟩|⟨hc_22,h_21⟩
       ·refine aC rfl hc_22 wz (ae (vL Log_.enc l_1) wa rfl (ae (vI (k_3:Int)) wa rfl (ae (vI (w64 ((k_3:Int)-1))) wa rfl ?_)))
        obtain ⟨y_23,hy_24,h_21⟩:=bind_some h_21
        refine fB xe rfl rfl hy_24 rfl wa (di gP jK rfl (.d (.agg (Log_.enc y_23))) rfl wa (aK 8 0 (.inr (by kernel_rfl)) (λ_ _ ag=>trivial) gP jK rfl rfl (.d (.agg (Log_.enc x_5))) rfl wa ?_))
        obtain ⟨r_25,hr_26,h_21⟩:=bind_some h_21
        refine au (uu hr_26) rfl hb62 rfl rfl rfl rfl wa (ae (vB (decide (r_25>=0))) wa rfl (ae (vB (decide (r_25>=0))) wz rfl (ae (vB (decide (r_25>=0))) wz rfl (ai ?_))))
        obtain rfl:=ah h_21
        exact cu
       ·refine aC rfl hc_22 wz (ak wa (ak wa (ak wa (ak wa (ak wa (ak wa (ak wa (ak wa (ae (vB false) wz rfl (ae (vB false) wz rfl (ai ?_)))))))))))
        obtain rfl:=ah h_21
        exact cu
      ·rintro ⟨⟩ _ sl_ H_ hp_ hq_
       refine aL _ hp_ hq_ ?_
       rcases aj hc_9 with⟨hc_27,hc_9⟩|⟨hc_27,hc_9⟩
       ·refine ay rfl hc_27 (af (aa (ae (vI 7) wz rfl (ai ?_))))
        obtain rfl:=ah hc_9
        obtain rfl:=ah hL_10
        obtain rfl:=ah hF
        exact av (aQ (.inr rfl) [(vI 7)] ⟨rfl,trivial⟩ rfl rfl rfl)
       ·refine aA rfl hc_27 (ax (aa (kF (fu hD_6 hn_7) wz rfl (ae (vI ((k_3+1:Nat):Int)) wz rfl (ai ?_)))))
        obtain rfl:=ah hc_9
        exact bB (k_3+1,l_4,()) ⟨hL_10,bT hD_6⟩ (ls_ _) rfl (aI rfl)
  ·rintro s_8 ho_ sl_ H_ hp_ hq_
   subst ho_
   refine aL _ hp_ hq_ (af (aa (ae (vI 0) wz rfl (ai ?_))))
   obtain rfl:=ah hF
   exact av (aQ (.inr rfl) [(vI 0)] ⟨rfl,trivial⟩ rfl rfl rfl)
theorem tZ {l_1:Log_} {r:ByteArray} (hF:mZ l_1=some r) :
  FnM Tryz.prog 74 [(.d (.agg (Log_.enc l_1)))] [] (vS r) []:=by
 refine FnM.of_wH ⟨Tryz.prog,11,[],[]⟩ rfl Tryz.func74 rfl rfl (lb_ rfl) (by kernel_rfl) ?_
 unfold mZ at hF
 refine af (aa (kN 0 (.inl rfl) [(vS l_1.Player),(vS l_1.Item),(vI l_1.No),(vI l_1.Clock),(vI l_1.Long),(vS l_1.Sum)] rfl rfl wz (λn_2=>ae (vS (⟨#[]⟩:ByteArray)) wz rfl (ai (af (dw (aK 0 0 (.inr (by kernel_rfl)) (λ_ _ ag=>trivial) gP jK rfl rfl (.d (.agg (Log_.enc l_1))) rfl wz ?_)))))))
 obtain ⟨r_3,hr_4,hF⟩:=bind_some hF
 refine au (pq hr_4) rfl hb86 rfl rfl rfl rfl wz ?_
 obtain ⟨s_5,hz_6,hF⟩:=bind_some hF
 refine fI rfl rfl hz_6 wz ?_
 obtain ⟨s_7,hz_8,hF⟩:=bind_some hF
 refine fI rfl rfl hz_8 wz (aN jH rfl 5 rfl wz (aK 5 0 (.inr (by kernel_rfl)) (λ_ _ ag=>⟨.inl ⟨rfl,rfl⟩,trivial⟩) sz9 ag9 rfl rfl (vS l_1.Sum) rfl wz ?_))
 obtain ⟨s_9,hz_10,hF⟩:=bind_some hF
 refine fI rfl rfl hz_10 wz ?_
 obtain ⟨r_11,hr_12,hF⟩:=bind_some hF
 refine au (gm hr_12) rfl Au rfl rfl rfl rfl wz (ae (vS r_11) wz rfl (ai ?_))
 obtain rfl:=ah hF
 exact av (aQ (.inr rfl) [(vS r_11)] ⟨rfl,trivial⟩ rfl rfl rfl)
theorem ql {l_1:(List Log_)} {r:(List ByteArray)} (hF:jO l_1=some r) :
  FnM Tryz.prog 63 [(vL Log_.enc l_1)] [] (vL eS r) []:=by
 refine FnM.of_wH ⟨Tryz.prog,19,[],[]⟩ rfl Tryz.func63 rfl rfl (lb_ rfl) (by kernel_rfl) ?_
 unfold jO at hF
 refine af (aa (ae .nil wz rfl (ai (af (aa (ae .nil wz rfl (ai (af (af (aa (ae (vL Log_.enc l_1) wz rfl (bS rR rfl wz (ae (vI 0) wz rfl (ai (mO (λn_8 => ?_))))))))))))))))
 obtain ⟨o_13,hj_14,hF⟩:=bind_some hF
 obtain ⟨hn_6,hj_14⟩:=dx hj_14
 refine aD (β:=((List ByteArray))×Nm) (λp=>(λ(s_7:List ByteArray) (n_10:Nm)=>([(3,(gV n_10 1 s_7))]:SL_)) p.1 p.2) (λp=>(λ(s_7:List ByteArray) (n_10:Nm)=>([(n_10,gB 1 eS s_7)]:Hp)) p.1 p.2) (λp=>o_13 = .go p.1) ?_ ?_
 ·refine aF (bI (β:=Nat×(List Log_)×((List ByteArray))×Nm) (λp=>(λ(k_2:Nat) (l_3:List Log_) (s_7:List ByteArray) (n_10:Nm)=>([(3,(gV n_10 1 s_7)),(6,(vL Log_.enc l_1)),(7,(vI (l_1.length:Int))),(8,(vI (k_2:Int)))]:SL_)) p.1 p.2.1 p.2.2.1 p.2.2.2) (λp=>(λ(k_2:Nat) (l_3:List Log_) (s_7:List ByteArray) (n_10:Nm)=>([(n_10,gB 1 eS s_7)]:Hp)) p.1 p.2.1 p.2.2.1 p.2.2.2) (λp=>dW (λk x s=>iT k x s) p.2.1 p.1 p.2.2.1=some o_13/\(l_1).drop p.1=p.2.1) (λp=>p.2.1.length) (0,l_1,([]:List ByteArray),n_8) ⟨hj_14,rfl⟩ rfl (aI rfl) ?_)
  rintro ⟨k_2,l_3,s_7,n_10⟩ ⟨hL_12,hD_5⟩
  dsimp only at hL_12 hD_5
  cases l_3 with
  | nil =>
   obtain rfl:=ah hL_12
   refine af (aa (ae (vB (decide ((k_2:Int)<(l_1.length:Int)))) wz rfl (ai ?_)))
   refine af (aA rfl (drop_nil hD_5) (bA ?_))
   exact bg (s_7,n_10) rfl rfl (aI rfl)
  | cons x_4 l_3 =>
   obtain ⟨c_,hc_11,hL_12⟩:=bind_some hL_12
   refine af (aa (ae (vB (decide ((k_2:Int)<(l_1.length:Int)))) wz rfl (ai ?_)))
   refine af (ay rfl (eG hD_5) (ax ?_))
   unfold iT at hc_11
   refine af (aF (af (aa (fB xe rfl rfl (fe hD_5) rfl wz (di gP jK rfl (.d (.agg (Log_.enc x_4))) rfl wz (kC 0 (.inl rfl) z43 rfl wz (λn_15=>ni 0 il ft 1 gP rfl rfl [(vS x_4.Player),(vS x_4.Item),(vI x_4.No),(vI x_4.Clock),(vI x_4.Long),(vS x_4.Sum)] rfl wz (ai (aa (ae (gV n_10 1 s_7) wz rfl (aK 0 1 il ft gP jK rfl rfl (.d (.agg (Log_.enc x_4))) rfl wz ?_)))))))))))
   obtain ⟨r_16,hr_17,hc_11⟩:=bind_some hc_11
   refine au (tZ hr_17) rfl hb74 rfl rfl rfl rfl wz (dC (([r_16]:List ByteArray).map eS) gu mY rfl rfl rfl rfl rfl wz ?_)
   obtain ⟨a_18,hz_19,hc_11⟩:=bind_some hc_11
   refine ko 0 il ft (i:=0) l9 l9 sz9 z9 rfl (by decide) by9 (by decide) (λ_=>rfl) rfl rfl rfl hz_19 wz (λn_20=>ae (gV n_20 1 a_18) wz rfl (ai (aa (kF (fu hD_5 hn_6) wz rfl (ae (vI ((k_2+1:Nat):Int)) wz rfl (ai ?_))))))
   obtain rfl:=ah hc_11
   exact bB (k_2+1,l_3,a_18,n_20) ⟨hL_12,bT hD_5⟩ (ls_ _) rfl (aI rfl)
 ·rintro ⟨s_7,n_10⟩ ho_ sl_ H_ hp_ hq_
  subst ho_
  refine aL _ hp_ hq_ (af (aa (ae (gV n_10 1 s_7) wz rfl (ae (gV n_10 1 s_7) wz rfl (ai (iO 0 rfl (dQ 2 0 rfl rfl (dQ 3 0 rfl rfl (dQ 18 0 rfl rfl ?_)))))))))
  obtain rfl:=ah hF
  exact av (aQ (.inr rfl) [(vL eS s_7)] ⟨rfl,trivial⟩ rfl rfl rfl)
theorem oC {a_1:ByteArray} {b_2:ByteArray} {r:ByteArray} (hF:jy a_1 b_2=some r) :
  FnM Tryz.prog 75 [(vS a_1),(vS b_2)] [] (vS r) []:=by
 refine FnM.of_wH ⟨Tryz.prog,11,[],[]⟩ rfl Tryz.func75 rfl rfl (lb_ rfl) (by kernel_rfl) ?_
 unfold jy at hF
 refine af (aa (ae (vS (⟨#[]⟩:ByteArray)) wz rfl (ai (af (aa (ae (vS a_1) wz rfl ?_))))))
 obtain ⟨s_3,hz_4,hF⟩:=bind_some hF
 refine fI rfl rfl hz_4 wz ?_
 obtain ⟨s_5,hz_6,hF⟩:=bind_some hF
 refine fI rfl rfl hz_6 wz (ae (vS b_2) wz rfl ?_)
 obtain ⟨s_7,hz_8,hF⟩:=bind_some hF
 refine fI rfl rfl hz_8 wz ?_
 obtain ⟨r_9,hr_10,hF⟩:=bind_some hF
 refine au (gm hr_10) rfl Au rfl rfl rfl rfl wz (ae (vS r_9) wz rfl (ai ?_))
 obtain rfl:=ah hF
 exact av (aQ (.inr rfl) [(vS r_9)] ⟨rfl,trivial⟩ rfl rfl rfl)
theorem qx {l_1:(List ByteArray)} {r:(List ByteArray)} (hF:jM l_1=some r) :
  FnM Tryz.prog 64 [(vL eS l_1)] [] (vL eS r) []:=by
 refine FnM.of_wH ⟨Tryz.prog,37,[],[]⟩ rfl Tryz.func64 rfl rfl (lb_ rfl) (by kernel_rfl) ?_
 unfold jM at hF
 refine af (aa (ae .nil wz rfl (ai (af (aa (ae .nil wz rfl (ai (af (af (aa (ae (vI 0) wz rfl (ai (mO (λn_8 => ?_))))))))))))))
 obtain ⟨o_13,hj_14,hF⟩:=bind_some hF
 obtain ⟨nq_34,hj_14⟩:=dV hj_14
 refine aD (β:=((List ByteArray)×Int)×Nm) (λp=>(λ(s_7:(List ByteArray)×Int) (n_10:Nm)=>([(3,(gV n_10 1 s_7.1))]:SL_)) p.1 p.2) (λp=>(λ(s_7:(List ByteArray)×Int) (n_10:Nm)=>([(n_10,gB 1 eS s_7.1)]:Hp)) p.1 p.2) (λp=>o_13 = .go p.1) ?_ ?_
 ·refine aF (bI (β:=Nat×((List ByteArray)×Int)×Nm) (λp=>(λ(k_2:Nat) (s_7:(List ByteArray)×Int) (n_10:Nm)=>([(0,(vL eS l_1)),(3,(gV n_10 1 s_7.1)),(4,(vI s_7.2))]:SL_)) p.1 p.2.1 p.2.2) (λp=>(λ(k_2:Nat) (s_7:(List ByteArray)×Int) (n_10:Nm)=>([(n_10,gB 1 eS s_7.1)]:Hp)) p.1 p.2.1 p.2.2) (λp=>aZ (λs=>kD l_1 s) p.1 p.2.1=some o_13) (λp=>p.1) (nq_34,(([]:List ByteArray),0),n_8) hj_14 rfl (aI rfl) ?_)
  rintro ⟨k_2,s_7,n_10⟩ hL_12
  dsimp only at hL_12
  cases k_2 with
  | zero=>cases hL_12
  | succ k_2 =>
   obtain ⟨c_,hc_11,hL_12⟩:=bind_some hL_12
   unfold kD at hc_11
   refine af (af (aa (ae (vI s_7.2) wz rfl (ae (vL eS l_1) wz rfl (bS kM rfl wz (ae (vB (decide (s_7.2<(l_1.length:Int)))) wz rfl (ai ?_)))))))
   rcases aj hc_11 with⟨hc_15,hc_11⟩|⟨hc_15,hc_11⟩
   ·refine ay rfl hc_15 (ax (af (aF (af (aa (ae (vI s_7.2) wz rfl (ae (vI (w64 (s_7.2+1))) wz rfl (ae (vL eS l_1) wz rfl (bS kM rfl wz (ae (vB (decide ((w64 (s_7.2+1))<(l_1.length:Int)))) wz rfl (ai ?_)))))))))))
    obtain ⟨v_16,h_17,hc_11⟩:=bind_some hc_11
    refine aD (β:=Nm) (λ(n_18:Nm)=>([(0,(vL eS l_1)),(3,(gV n_18 1 v_16)),(4,(vI s_7.2))]:SL_)) (λ(n_18:Nm)=>([(n_18,gB 1 eS v_16)]:Hp)) (λ_=>True) ?_ ?_
    ·rcases aj h_17 with⟨hc_19,h_17⟩|⟨hc_19,h_17⟩
     ·refine ay rfl hc_19 (dw (ae (gV n_10 1 s_7.1) wz rfl (ae (vL eS l_1) wz rfl (ae (vI s_7.2) wz rfl ?_))))
      obtain ⟨y_20,hy_21,h_17⟩:=bind_some h_17
      refine fB gu rfl rfl hy_21 rfl wz (di sz9 ag9 rfl (vS y_20) rfl wz (ae (vL eS l_1) wz rfl (ae (vI s_7.2) wz rfl (ae (vI (w64 (s_7.2+1))) wz rfl ?_))))
      obtain ⟨y_22,hy_23,h_17⟩:=bind_some h_17
      refine fB gu rfl rfl hy_23 rfl wz (di sz9 ag9 rfl (vS y_22) rfl wz ?_)
      obtain ⟨r_24,hr_25,h_17⟩:=bind_some h_17
      refine au (oC hr_25) rfl hb75 rfl rfl rfl rfl wz (dC (([r_24]:List ByteArray).map eS) gu mY rfl rfl rfl rfl rfl wz ?_)
      obtain ⟨a_26,hz_27,h_17⟩:=bind_some h_17
      refine ko 12 (.inr (by kernel_rfl)) (λ_ _ ag=>trivial) (i:=0) l9 l9 sz9 z9 rfl (by decide) by9 (by decide) (λ_=>rfl) rfl rfl rfl hz_27 wz (λn_28=>ae (gV n_28 1 a_26) wz rfl (ai ?_))
      obtain rfl:=ah h_17
      exact bg n_28 trivial rfl (aI rfl)
     ·refine aA rfl hc_19 (aa (ae (gV n_10 1 s_7.1) wz rfl (ae (vL eS l_1) wz rfl (ae (vI s_7.2) wz rfl ?_))))
      obtain ⟨y_29,hy_30,h_17⟩:=bind_some h_17
      refine fB gu rfl rfl hy_30 rfl wz (di sz9 ag9 rfl (vS y_29) rfl wz (dC (([y_29]:List ByteArray).map eS) gu mY rfl rfl rfl rfl rfl wz ?_))
      obtain ⟨a_31,hz_32,h_17⟩:=bind_some h_17
      refine ko 0 il ft (i:=0) l9 l9 sz9 z9 rfl (by decide) by9 (by decide) (λ_=>rfl) rfl rfl rfl hz_32 wz (λn_33=>ae (gV n_33 1 a_31) wz rfl (ai ?_))
      obtain rfl:=ah h_17
      exact bg n_33 trivial rfl (aI rfl)
    ·rintro n_18 _ sl_ H_ hp_ hq_
     refine aL _ hp_ hq_ (aa (ae (vI s_7.2) wz rfl (ae (vI (w64 (s_7.2+2))) wz rfl (ae (vI (w64 (s_7.2+2))) wz rfl (ai ?_)))))
     obtain rfl:=ah hc_11
     exact bB (k_2,(v_16,(w64 (s_7.2+2))),n_18) hL_12 (ls_ _) rfl (aI rfl)
   ·refine aA rfl hc_15 (bA ?_)
    obtain rfl:=ah hc_11
    obtain rfl:=ah hL_12
    exact bg ((s_7.1,s_7.2),n_10) rfl rfl (aI rfl)
 ·rintro ⟨s_7,n_10⟩ ho_ sl_ H_ hp_ hq_
  subst ho_
  refine aL _ hp_ hq_ (af (aa (ae (gV n_10 1 s_7.1) wz rfl (ae (gV n_10 1 s_7.1) wz rfl (ai (iO 0 rfl (dQ 2 0 rfl rfl (dQ 3 0 rfl rfl (dQ 36 0 rfl rfl ?_)))))))))
  obtain rfl:=ah hF
  exact av (aQ (.inr rfl) [(vL eS s_7.1)] ⟨rfl,trivial⟩ rfl rfl rfl)
theorem xm {l_1:(List Log_)} {r:ByteArray} (hF:j6 l_1=some r) :
  FnM Tryz.prog 11 [(vL Log_.enc l_1)] [] (vS r) []:=by
 refine FnM.of_wH ⟨Tryz.prog,18,[],[]⟩ rfl Tryz.func11 rfl rfl (lb_ rfl) (by kernel_rfl) ?_
 unfold j6 at hF
 refine af (aa (ae (vS (⟨#[]⟩:ByteArray)) wz rfl (ai (af (af (aa (ae (vL Log_.enc l_1) wz rfl (bS rR rfl wz (ae (vB ((l_1.length:Int)==0)) wz rfl (ai ?_))))))))))
 rcases aj hF with⟨hc_2,hF⟩|⟨hc_2,hF⟩
 ·refine ay rfl hc_2 (af (aa ?_))
  obtain ⟨r_3,hr_4,hF⟩:=bind_some hF
  refine au (gm hr_4) rfl Au rfl rfl rfl rfl wz (ae (vS r_3) wz rfl (ai ?_))
  obtain rfl:=ah hF
  exact av (aQ (.inr rfl) [(vS r_3)] ⟨rfl,trivial⟩ rfl rfl rfl)
 ·refine aA rfl hc_2 (ax (af (aa (ae (vL Log_.enc l_1) wz rfl ?_))))
  obtain ⟨r_5,hr_6,hF⟩:=bind_some hF
  refine au (ql hr_6) rfl hb63 rfl rfl rfl rfl wz (ae (vL eS r_5) wz rfl (ai (af ?_)))
  obtain ⟨o_15,hj_16,hF⟩:=bind_some hF
  obtain ⟨nq_22,hj_16⟩:=dV hj_16
  refine aD (β:=((List ByteArray))) (λ(s_12:List ByteArray)=>([(3,(vL eS s_12))]:SL_)) (λ(s_12:List ByteArray)=>([]:Hp)) (λp=>o_15 = .go p) ?_ ?_
  ·refine aF (bI (β:=Nat×((List ByteArray))) (λp=>(λ(k_7:Nat) (s_12:List ByteArray)=>([(3,(vL eS s_12))]:SL_)) p.1 p.2) (λp=>(λ(k_7:Nat) (s_12:List ByteArray)=>([]:Hp)) p.1 p.2) (λp=>aZ (λs=>fE s) p.1 p.2=some o_15) (λp=>p.1) (nq_22,r_5) hj_16 rfl (aI rfl) ?_)
   rintro ⟨k_7,s_12⟩ hL_14
   dsimp only at hL_14
   cases k_7 with
   | zero=>cases hL_14
   | succ k_7 =>
    obtain ⟨c_,hc_13,hL_14⟩:=bind_some hL_14
    unfold fE at hc_13
    refine af (af (aa (ae (vL eS s_12) wz rfl (bS kM rfl wz (ae (vB (decide ((s_12.length:Int)>1))) wz rfl (ai ?_))))))
    rcases aj hc_13 with⟨hc_17,hc_13⟩|⟨hc_17,hc_13⟩
    ·refine ay rfl hc_17 (ax (aF (aa (ae (vL eS s_12) wz rfl ?_))))
     obtain ⟨r_18,hr_19,hc_13⟩:=bind_some hc_13
     refine au (qx hr_19) rfl hb64 rfl rfl rfl rfl wz (ae (vL eS r_18) wz rfl (ai ?_))
     obtain rfl:=ah hc_13
     exact bB (k_7,r_18) hL_14 (ls_ _) rfl (aI rfl)
    ·refine aA rfl hc_17 (bA ?_)
     obtain rfl:=ah hc_13
     obtain rfl:=ah hL_14
     exact bg (s_12) rfl rfl (aI rfl)
  ·rintro s_12 ho_ sl_ H_ hp_ hq_
   subst ho_
   refine aL _ hp_ hq_ (af (aa (ae (vL eS s_12) wz rfl ?_)))
   obtain ⟨y_20,hy_21,hF⟩:=bind_some hF
   refine fB gu rfl rfl hy_21 rfl wz (di sz9 ag9 rfl (vS y_20) rfl wz (ae (vS y_20) wz rfl (ai ?_)))
   obtain rfl:=ah hF
   exact av (aQ (.inr rfl) [(vS y_20)] ⟨rfl,trivial⟩ rfl rfl rfl)
end Go.Proofs.YtdenjndllgahgaaGreatDoor.Law

